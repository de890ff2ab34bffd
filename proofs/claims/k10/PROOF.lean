import PyProof.Rows.All
import Wide.All
import OpenK.AllK
import Wide.FinOn
import HandS.ForMost
import HandS.Exc
import HandS.TryOnly
import HandS.TryMany
import HandS.CallSlots
import HandS.WordsExc
import KE.DataEq
import KE.DataFind
import KE.DataMinMax
import KE.SortData
import KE.DataMinKey
import KE.KTupSum
import HandS.TupAny
import HandS.TupMul
import HandS.IsInst
import HandS.Wide
import HandS.Style
import HandS.SortInts
import KE.GoesEnum
import KE.GoesMore
import HandS.Zip
import HandS.Gcd
import PyProof.Rows.SortWalkRead
import HandS.Defaults
import HandS.ExcOwn
import HandS.Head0
import HandS.Head1
import HandS.Head2
import HandS.HeadEnd
import HandS.HeadHook1
import HandS.HeadHook2
import HandS.Conv
import HandS.TupLe
import HandS.Dict
import HandS.SetFor
import KE.KMathGC
import PyProof.Rows.TupDisplay
import PyProof.MaxThree
import HandS.Star
import HandS.Strs
import KE.KDictPairs
import KE.KDictCopyH
import HandS.NamedTupSort
import HandS.Deep
import KE.KSortTupAny
import KE.GoesZip
import KE.KEqDeep
import PySem.Challenge.RW_leadsums_k10_whole_moved_rows
set_option Elab.async false
set_option linter.all false
set_option maxRecDepth 100000
set_option maxHeartbeats 0
/-! Dn0: pure data D, the store of cells, the relation to the hand layer's values and abstract heap. -/
namespace Dn
open PySem PySem.Spec PyProof.Rows L2

/-- pure data: what a Python value is; a list here is one that is not changed any more -/
inductive D where
  | non | bl (b : Bool) | int (i : Int) | str (x : Str)
  | tup (xs : List D) | lst (xs : List D)
  | dct (ks vs : List D)
  | glo (x : Str) | ty (n : String) | scr (ns : List Int)
/-- a value: data, or a cell of the store -/
inductive Val where
  | d (x : D)
  | cell (n : Nat)
/-- a cell of the store: a list or dict that is changed, an object -/
inductive Cell where
  | lst (xs : List D)
  | dct (ks vs : List D)
  | ins (c : Str) (fs : List (Str × Val))
  | fzd (ks vs : List D)
abbrev Store := List Cell
/-- an exception: its class's global name, its one attribute -/
structure Exc where
  cls : Str
  fs : List (Str × D)
inductive Out (α : Type) where
  | ok (a : α) (S : Store)
  | exc (e : Exc) (S : Store)
  | bad
abbrev M (α : Type) := Store → Out α
def Out.bind {α β : Type} (o : Out α) (f : α → M β) : Out β := match o with
  | .ok a S => f a S
  | .exc e S => .exc e S
  | .bad => .bad
def M.bind {α β : Type} (x : M α) (f : α → M β) : M β := fun S => (x S).bind f
def M.pure {α : Type} (a : α) : M α := fun S => .ok a S
def M.bad {α : Type} : M α := fun _ => .bad
def ofOpt {α : Type} : Option α → M α
  | some a => M.pure a
  | none => M.bad
abbrev Env' := List (Option Val)

/-- the cells' addresses; further addresses that no data lies at -/
structure Ks where
  cells : List Addr
  more : List Addr
def Ks.out (κ : Ks) (a : Addr) : Prop := a ∉ κ.cells ∧ a ∉ κ.more
def Ks.ex (κ : Ks) (p : Addr) : Ks := { κ with more := p :: κ.more }
def Ks.push (κ : Ks) (p : Addr) : Ks := { κ with cells := κ.cells ++ [p] }
structure Ctx where
  K : PySem.W.Frag
  mg : Str → Option Value
def keyD : Key → D
  | .inl i => .int i
  | .inr x => .str x

def ScrOk (K : PySem.W.Frag) (H : Hp) (a : Addr) (ns : List Int) : Prop :=
  (∃ o, H a = some (.frz o (.lst (ns.map V.int)))) ∨
    ∃ (o : Obj) (its : Array Value) (n : Nat), K.lookup a = some o ∧ o.cls = .type "list" ∧ o.dict = none ∧ o.data = .seq its n ∧ its.size ≤ sizeLine ∧ Vals (ns.map V.int) its.toList
theorem ScrOk.seq {K : PySem.W.Frag} {H : Hp} {a : Addr} {ns : List Int} (h : ScrOk K H a ns) : SqL K H a (ns.map V.int) := by
  rcases h with ⟨o, h⟩ | h
  · exact .inl (.inr ⟨o, h⟩)
  · exact .inr h

mutual
def Rep (C : Ctx) (κ : Ks) (H : Hp) : D → V → Prop
  | .non, v => v = .non
  | .bl b, v => v = .bl b
  | .int i, v => v = .int i
  | .str x, v => v = .str x
  | .tup xs, v => ∃ a vs, v = .ref a ∧ H a = some (.tup vs) ∧ RepL C κ H xs vs
  | .lst xs, v => ∃ a vs, v = .ref a ∧ H a = some (.lst vs) ∧ κ.out a ∧ RepL C κ H xs vs
  | .dct ks ds, v => ∃ a, v = .ref a ∧ κ.out a ∧
      ((∃ kvs : List (Key × V), H a = some (.dK kvs) ∧ ks = kvs.map (fun p => keyD p.1) ∧ RepL C κ H ds (kvs.map (·.2))) ∨
       (∃ kvs : List (List Key × V), H a = some (.dT kvs) ∧ ks = .non :: kvs.map (fun p => .tup (p.1.map keyD)) ∧ RepL C κ H ds (kvs.map (·.2))))
  | .glo x, v => ∃ a, C.mg x = some (.ref a) ∧ v = .ref a
  | .ty n, v => v = .ty n
  | .scr ns, v => ∃ a, v = .ref a ∧ ScrOk C.K H a ns
def RepL (C : Ctx) (κ : Ks) (H : Hp) : List D → List V → Prop
  | [], vs => vs = []
  | d :: ds, vs => ∃ v r, vs = v :: r ∧ Rep C κ H d v ∧ RepL C κ H ds r
end
def RepV (C : Ctx) (κ : Ks) (H : Hp) : Val → V → Prop
  | .d x, v => Rep C κ H x v
  | .cell n, v => ∃ a, κ.cells[n]? = some a ∧ v = .ref a

/-- the heap has grown: what was tracked and no cell is as it was -/
structure Grow (κ : Ks) (H : Hp) (κ' : Ks) (H' : Hp) : Prop where
  pre : ∃ l, κ'.cells = κ.cells ++ l
  more : ∀ a ∈ κ'.more, a ∈ κ.more ∨ H a = none
  held : ∀ a ∈ κ.more, a ∈ κ'.more
  keep : ∀ a o, a ∉ κ.cells → H a = some o → H' a = some o
  new : ∀ a, a ∈ κ'.cells → a ∉ κ.cells → H a = none
  there : ∀ a o, H a = some o → ∃ o', H' a = some o'
  tups : ∀ a xs, H a = some (.tup xs) → H' a = some (.tup xs)
  frzs : ∀ a o u, H a = some (.frz o u) → H' a = some (.frz o u)

theorem Grow.refl (κ : Ks) (H : Hp) : Grow κ H κ H :=
  ⟨⟨[], by simp⟩, fun _ m => .inl m, fun _ m => m, fun _ _ _ h => h, fun _ h n => absurd h n, fun _ o h => ⟨o, h⟩, fun _ _ h => h, fun _ _ _ h => h⟩
theorem Grow.fresh {κ κ' : Ks} {H H' : Hp} (g : Grow κ H κ' H') {a : Addr} (h : H' a = none) : H a = none := by
  cases q : H a with
  | none => rfl
  | some o =>
    obtain ⟨o', e⟩ := g.there a o q
    rw [h] at e; cases e
theorem Grow.mem {κ κ' : Ks} {H H' : Hp} (g : Grow κ H κ' H') {a : Addr} {o : HO} (n : a ∉ κ.cells) (h : H a = some o) : a ∉ κ'.cells := fun m => by
  rw [g.new a m n] at h; cases h
theorem Grow.out {κ κ' : Ks} {H H' : Hp} (g : Grow κ H κ' H') {a : Addr} {o : HO} (n : κ.out a) (h : H a = some o) : κ'.out a :=
  ⟨g.mem n.1 h, fun m => (g.more a m).elim n.2 fun z => by rw [h] at z; cases z⟩
theorem Grow.trans {κ κ1 κ2 : Ks} {H H1 H2 : Hp} (g : Grow κ H κ1 H1) (k : Grow κ1 H1 κ2 H2) : Grow κ H κ2 H2 := by
  refine ⟨?_, fun a m => ?_, fun a m => k.held a (g.held a m), fun a o n h => k.keep a o (g.mem n h) (g.keep a o n h), fun a m n => ?_, fun a o h => ?_, fun a xs h => k.tups a xs (g.tups a xs h), fun a o u h => k.frzs a o u (g.frzs a o u h)⟩
  · obtain ⟨l, e⟩ := g.pre
    obtain ⟨l', e'⟩ := k.pre
    exact ⟨l ++ l', by rw [e', e, List.append_assoc]⟩
  · rcases k.more a m with m | n
    · exact g.more a m
    · exact .inr (g.fresh n)
  · cases q : H a with
    | none => rfl
    | some o =>
      have n1 := g.mem n q
      have := k.new a m n1
      rw [g.keep a o n q] at this; cases this
  · obtain ⟨o1, h1⟩ := g.there a o h
    exact k.there a o1 h1
theorem Grow.laid {κ : Ks} {H : Hp} {p : Addr} {o : HO} (h : H p = none) : Grow κ H κ (upd H p o) :=
  ⟨⟨[], by simp⟩, fun _ m => .inl m, fun _ m => m, fun a u _ e => by rw [upd_ne (ne_of_none e h)]; exact e, fun _ h n => absurd h n, fun a u e => ⟨u, by rw [upd_ne (ne_of_none e h)]; exact e⟩, fun a xs e => by rw [upd_ne (ne_of_none e h)]; exact e, fun a o' u e => by rw [upd_ne (ne_of_none e h)]; exact e⟩
/-- one more address that no data lies at -/
theorem Grow.lock {κ : Ks} {H : Hp} {p : Addr} (h : H p = none) : Grow κ H (κ.ex p) H :=
  ⟨⟨[], by simp [Ks.ex]⟩, fun a m => (List.mem_cons.mp m).elim (fun e => .inr (by rw [e]; exact h)) .inl, fun a m => List.mem_cons_of_mem _ m, fun _ _ _ h => h, fun _ h n => absurd h n, fun _ o h => ⟨o, h⟩, fun _ _ h => h, fun _ _ _ h => h⟩
theorem Grow.get {κ κ' : Ks} {H H' : Hp} (g : Grow κ H κ' H') {n : Nat} {a : Addr} (e : κ.cells[n]? = some a) : κ'.cells[n]? = some a := by
  obtain ⟨l, p⟩ := g.pre
  rw [p, List.getElem?_append_left]
  · exact e
  · exact (List.getElem?_eq_some_iff.mp e).1

/-- what data lean on stays -/
structure Stp (κ : Ks) (H : Hp) (κ' : Ks) (H' : Hp) : Prop where
  keep : ∀ a o, κ.out a → H a = some o → H' a = some o
  out : ∀ a o, κ.out a → H a = some o → κ'.out a
  tups : ∀ a xs, H a = some (.tup xs) → H' a = some (.tup xs)
  frzs : ∀ a o u, H a = some (.frz o u) → (∀ kvs, u ≠ .dK kvs) → (∀ kvs, u ≠ .dT kvs) → H' a = some (.frz o u)
theorem Grow.stp {κ κ' : Ks} {H H' : Hp} (g : Grow κ H κ' H') : Stp κ H κ' H' := ⟨fun a o n h => g.keep a o n.1 h, fun a o n h => g.out n h, g.tups, fun a o u h _ _ => g.frzs a o u h⟩
theorem SqT_stp {C : Ctx} {κ κ' : Ks} {H H' : Hp} {a : Addr} {xs : List V} (g : Stp κ H κ' H') (h : SqT C.K H a xs) : SqT C.K H' a xs := by
  rcases h with (h | ⟨o, h⟩) | h
  · exact .inl (.inl (g.tups _ _ h))
  · exact .inl (.inr ⟨o, g.frzs _ _ _ h (fun _ z => nomatch z) (fun _ z => nomatch z)⟩)
  · exact .inr h
theorem ScrOk.stp {K : PySem.W.Frag} {κ κ' : Ks} {H H' : Hp} {a : Addr} {ns : List Int} (g : Stp κ H κ' H') (h : ScrOk K H a ns) : ScrOk K H' a ns := by
  rcases h with ⟨o, h⟩ | h
  · exact .inl ⟨o, g.frzs _ _ _ h (fun _ z => nomatch z) (fun _ z => nomatch z)⟩
  · exact .inr h

mutual
theorem Rep.stp {C : Ctx} {κ κ' : Ks} {H H' : Hp} (g : Stp κ H κ' H') : ∀ {d : D} {v : V}, Rep C κ H d v → Rep C κ' H' d v
  | .non, _, h => by unfold Rep at h ⊢; exact h
  | .bl _, _, h => by unfold Rep at h ⊢; exact h
  | .int _, _, h => by unfold Rep at h ⊢; exact h
  | .str _, _, h => by unfold Rep at h ⊢; exact h
  | .tup xs, _, h => by
    unfold Rep at h ⊢
    obtain ⟨a, vs, e, s, r⟩ := h
    exact ⟨a, vs, e, g.tups _ _ s, RepL.stp g r⟩
  | .lst xs, _, h => by
    unfold Rep at h ⊢
    obtain ⟨a, vs, e, s, n, r⟩ := h
    exact ⟨a, vs, e, g.keep _ _ n s, g.out _ _ n s, RepL.stp g r⟩
  | .dct ks ds, _, h => by
    unfold Rep at h ⊢
    obtain ⟨a, e, n, h⟩ := h
    rcases h with ⟨kvs, s, k, r⟩ | ⟨kvs, s, k, r⟩
    · exact ⟨a, e, g.out _ _ n s, .inl ⟨kvs, g.keep _ _ n s, k, RepL.stp g r⟩⟩
    · exact ⟨a, e, g.out _ _ n s, .inr ⟨kvs, g.keep _ _ n s, k, RepL.stp g r⟩⟩
  | .glo _, _, h => by unfold Rep at h ⊢; exact h
  | .ty _, _, h => by unfold Rep at h ⊢; exact h
  | .scr ns, _, h => by
    unfold Rep at h ⊢
    obtain ⟨a, e, s⟩ := h
    exact ⟨a, e, s.stp g⟩
theorem RepL.stp {C : Ctx} {κ κ' : Ks} {H H' : Hp} (g : Stp κ H κ' H') : ∀ {ds : List D} {vs : List V}, RepL C κ H ds vs → RepL C κ' H' ds vs
  | [], _, h => by unfold RepL at h ⊢; exact h
  | d :: ds, _, h => by
    unfold RepL at h ⊢
    obtain ⟨v, r, e, h1, h2⟩ := h
    exact ⟨v, r, e, Rep.stp g h1, RepL.stp g h2⟩
end
theorem Rep.grow {C : Ctx} {κ κ' : Ks} {H H' : Hp} (g : Grow κ H κ' H') {d : D} {v : V} (h : Rep C κ H d v) : Rep C κ' H' d v := h.stp g.stp
theorem RepL.grow {C : Ctx} {κ κ' : Ks} {H H' : Hp} (g : Grow κ H κ' H') {d : List D} {v : List V} (h : RepL C κ H d v) : RepL C κ' H' d v := h.stp g.stp
theorem RepV.grow {C : Ctx} {κ κ' : Ks} {H H' : Hp} (g : Grow κ H κ' H') {d : Val} {v : V} (h : RepV C κ H d v) : RepV C κ' H' d v := by
  cases d with
  | d x => exact Rep.grow g h
  | cell n =>
    obtain ⟨a, e, q⟩ := h
    exact ⟨a, g.get e, q⟩

theorem RepL.nil {C : Ctx} {κ : Ks} {H : Hp} : RepL C κ H [] [] := by unfold RepL; rfl
theorem RepL.cons {C : Ctx} {κ : Ks} {H : Hp} {d : D} {v : V} {ds : List D} {vs : List V} (h : Rep C κ H d v) (t : RepL C κ H ds vs) : RepL C κ H (d :: ds) (v :: vs) := by
  unfold RepL; exact ⟨v, vs, rfl, h, t⟩
theorem RepL.cons_inv {C : Ctx} {κ : Ks} {H : Hp} {d : D} {ds : List D} {vs : List V} (h : RepL C κ H (d :: ds) vs) : ∃ v r, vs = v :: r ∧ Rep C κ H d v ∧ RepL C κ H ds r := by
  unfold RepL at h; exact h
theorem RepL.nil_inv {C : Ctx} {κ : Ks} {H : Hp} {vs : List V} (h : RepL C κ H [] vs) : vs = [] := by
  unfold RepL at h; exact h
theorem RepL.length {C : Ctx} {κ : Ks} {H : Hp} : ∀ {ds : List D} {vs : List V}, RepL C κ H ds vs → vs.length = ds.length
  | [], _, h => by rw [h.nil_inv]; rfl
  | d :: ds, _, h => by
    obtain ⟨v, r, e, _, h2⟩ := h.cons_inv
    rw [e, List.length_cons, List.length_cons, RepL.length h2]
theorem RepL.get {C : Ctx} {κ : Ks} {H : Hp} : ∀ {ds : List D} {vs : List V} {i : Nat} {d : D}, RepL C κ H ds vs → ds[i]? = some d → ∃ v, vs[i]? = some v ∧ Rep C κ H d v
  | [], _, _, _, _, e => by simp at e
  | d :: ds, _, 0, _, h, e => by
    obtain ⟨v, r, q, h1, _⟩ := h.cons_inv
    simp at e
    subst e q
    exact ⟨v, by simp, h1⟩
  | d :: ds, _, i + 1, d', h, e => by
    obtain ⟨v, r, q, _, h2⟩ := h.cons_inv
    subst q
    obtain ⟨v', e', h'⟩ := RepL.get (i := i) (d := d') h2 (by simpa using e)
    exact ⟨v', by simpa using e', h'⟩
theorem RepL.append {C : Ctx} {κ : Ks} {H : Hp} : ∀ {ds es : List D} {vs us : List V}, RepL C κ H ds vs → RepL C κ H es us → RepL C κ H (ds ++ es) (vs ++ us)
  | [], _, _, _, h, k => by rw [h.nil_inv]; exact k
  | d :: ds, _, _, _, h, k => by
    obtain ⟨v, r, q, h1, h2⟩ := h.cons_inv
    subst q
    exact .cons h1 (RepL.append h2 k)
theorem RepL.take {C : Ctx} {κ : Ks} {H : Hp} : ∀ {ds : List D} {vs : List V} (n : Nat), RepL C κ H ds vs → RepL C κ H (ds.take n) (vs.take n)
  | _, _, 0, _ => by rw [List.take_zero, List.take_zero]; exact .nil
  | [], _, n + 1, h => by rw [h.nil_inv]; exact .nil
  | d :: ds, _, n + 1, h => by
    obtain ⟨v, r, q, h1, h2⟩ := h.cons_inv
    subst q
    exact .cons h1 (RepL.take n h2)
theorem RepL.drop {C : Ctx} {κ : Ks} {H : Hp} : ∀ {ds : List D} {vs : List V} (n : Nat), RepL C κ H ds vs → RepL C κ H (ds.drop n) (vs.drop n)
  | _, _, 0, h => h
  | [], _, n + 1, h => by rw [h.nil_inv]; exact .nil
  | d :: ds, _, n + 1, h => by
    obtain ⟨v, r, q, h1, h2⟩ := h.cons_inv
    subst q
    exact RepL.drop n h2
theorem RepL.reverse {C : Ctx} {κ : Ks} {H : Hp} : ∀ {ds : List D} {vs : List V}, RepL C κ H ds vs → RepL C κ H ds.reverse vs.reverse
  | [], _, h => by rw [h.nil_inv]; exact .nil
  | d :: ds, _, h => by
    obtain ⟨v, r, q, h1, h2⟩ := h.cons_inv
    subst q
    rw [List.reverse_cons, List.reverse_cons]
    exact (RepL.reverse h2).append (.cons h1 .nil)
theorem RepL.set {C : Ctx} {κ : Ks} {H : Hp} {d' : D} {v' : V} (h' : Rep C κ H d' v') : ∀ {ds : List D} {vs : List V} (n : Nat), RepL C κ H ds vs → RepL C κ H (ds.set n d') (vs.set n v')
  | [], _, _, h => by rw [h.nil_inv]; exact .nil
  | d :: ds, _, 0, h => by
    obtain ⟨v, r, q, h1, h2⟩ := h.cons_inv
    subst q
    exact .cons h' h2
  | d :: ds, _, n + 1, h => by
    obtain ⟨v, r, q, h1, h2⟩ := h.cons_inv
    subst q
    exact .cons h1 (RepL.set h' n h2)
theorem RepL.dropLast {C : Ctx} {κ : Ks} {H : Hp} {ds : List D} {vs : List V} (h : RepL C κ H ds vs) : RepL C κ H ds.dropLast vs.dropLast := by
  rw [List.dropLast_eq_take, List.dropLast_eq_take, h.length]
  exact h.take _
theorem RepL.ints {C : Ctx} {κ : Ks} {H : Hp} : ∀ (ns : List Int) {vs : List V}, RepL C κ H (ns.map D.int) vs → vs = ns.map V.int
  | [], _, h => h.nil_inv
  | n :: ns, _, h => by
    obtain ⟨v, r, q, h1, h2⟩ := h.cons_inv
    unfold Rep at h1
    rw [q, h1, RepL.ints ns h2]
    rfl
theorem RepL.of_ints {C : Ctx} {κ : Ks} {H : Hp} : ∀ (ns : List Int), RepL C κ H (ns.map D.int) (ns.map V.int)
  | [] => .nil
  | n :: ns => .cons (by unfold Rep; rfl) (RepL.of_ints ns)

/-- what stands at the address of a cell -/
def CellOk (C : Ctx) (κ : Ks) (H : Hp) (i : Nat) (a : Addr) : Cell → Prop
  | .lst xs => ∃ vs, H a = some (.lst vs) ∧ RepL C κ H xs vs
  | .dct ks ds => ((∃ kvs : List (Key × V), H a = some (.dK kvs) ∧ ks = kvs.map (fun p => keyD p.1) ∧ RepL C κ H ds (kvs.map (·.2))) ∨
       (∃ kvs : List (List Key × V), H a = some (.dT kvs) ∧ ks = .non :: kvs.map (fun p => .tup (p.1.map keyD)) ∧ RepL C κ H ds (kvs.map (·.2))))
  | .ins c fs => ∃ Ca dx fvs, C.mg c = some (.ref Ca) ∧ H a = some (.ins Ca dx fvs) ∧ fs.map (·.1) = fvs.map (·.1) ∧
      ∀ (j : Nat) f x v, fs[j]? = some (f, x) → fvs[j]? = some (f, v) → (match x with | .d y => Rep C κ H y v | .cell m => m < i ∧ ∃ b, κ.cells[m]? = some b ∧ v = .ref b)
  | .fzd ks ds => ∃ o, ((∃ kvs : List (Key × V), H a = some (.frz o (.dK kvs)) ∧ ks = kvs.map (fun p => keyD p.1) ∧ RepL C κ H ds (kvs.map (·.2))) ∨
       (∃ kvs : List (List Key × V), H a = some (.frz o (.dT kvs)) ∧ ks = .non :: kvs.map (fun p => .tup (p.1.map keyD)) ∧ RepL C κ H ds (kvs.map (·.2))))
structure Cells (C : Ctx) (κ : Ks) (H : Hp) (S : Store) : Prop where
  len : κ.cells.length = S.length
  nd : κ.cells.Nodup
  ok : ∀ (n : Nat) c a, S[n]? = some c → κ.cells[n]? = some a → CellOk C κ H n a c
  occ : ∀ a ∈ κ.more, a ∉ κ.cells ∧ ∃ o, H a = some o
/-- the state: the store and the names -/
structure Sim (C : Ctx) (κ : Ks) (H : Hp) (σ : L2.St) (ρ : Env') (S : Store) : Prop where
  cells : Cells C κ H S
  len : σ.length = ρ.length
  env : ∀ (i : Nat) x, ρ[i]? = some (some x) → ∃ v, σ[i]? = some (some v) ∧ RepV C κ H x v
theorem Sim.grow {C : Ctx} {κ κ' : Ks} {H H' : Hp} {σ : L2.St} {ρ : Env'} {S S' : Store} (s : Sim C κ H σ ρ S) (g : Grow κ H κ' H') (c : Cells C κ' H' S') : Sim C κ' H' σ ρ S' :=
  ⟨c, s.len, fun i x e => let ⟨v, q, r⟩ := s.env i x e; ⟨v, q, r.grow g⟩⟩
theorem CellOk.ne_tup {C : Ctx} {κ : Ks} {H : Hp} {i : Nat} {a : Addr} {c : Cell} (h : CellOk C κ H i a c) (xs : List V) : H a ≠ some (.tup xs) := by
  intro e
  cases c with
  | lst ys => obtain ⟨vs, q, _⟩ := h; rw [e] at q; cases q
  | dct ks ds =>
    rcases h with ⟨_, q, _⟩ | ⟨_, q, _⟩
    · rw [e] at q; cases q
    · rw [e] at q; cases q
  | ins c fs => obtain ⟨_, _, _, _, q, _⟩ := h; rw [e] at q; cases q
  | fzd ks ds =>
    rcases h with ⟨_, ⟨_, q, _⟩ | ⟨_, q, _⟩⟩
    · rw [e] at q; cases q
    · rw [e] at q; cases q
theorem CellOk.ne_frz {C : Ctx} {κ : Ks} {H : Hp} {i : Nat} {a : Addr} {c : Cell} (h : CellOk C κ H i a c) (hc : ∀ ks ds, c ≠ .fzd ks ds) (o : Obj) (u : HO) : H a ≠ some (.frz o u) := by
  intro e
  cases c with
  | lst ys => obtain ⟨vs, q, _⟩ := h; rw [e] at q; cases q
  | dct ks ds =>
    rcases h with ⟨_, q, _⟩ | ⟨_, q, _⟩
    · rw [e] at q; cases q
    · rw [e] at q; cases q
  | ins c fs => obtain ⟨_, _, _, _, q, _⟩ := h; rw [e] at q; cases q
  | fzd ks ds => exact hc ks ds rfl
/-- another cell's description stays where the heap grows and its own object stays -/
theorem CellOk.grow {C : Ctx} {κ κ' : Ks} {H H' : Hp} {i : Nat} {a : Addr} {c : Cell} (g : Grow κ H κ' H') (e : H' a = H a) (h : CellOk C κ H i a c) : CellOk C κ' H' i a c := by
  cases c with
  | lst ys =>
    obtain ⟨vs, q, r⟩ := h
    exact ⟨vs, e.trans q, r.grow g⟩
  | dct ks ds =>
    rcases h with ⟨kvs, q, k, r⟩ | ⟨kvs, q, k, r⟩
    · exact .inl ⟨kvs, e.trans q, k, r.grow g⟩
    · exact .inr ⟨kvs, e.trans q, k, r.grow g⟩
  | ins c fs =>
    obtain ⟨Ca, dx, fvs, m, q, k, r⟩ := h
    refine ⟨Ca, dx, fvs, m, e.trans q, k, fun j f x v h1 h2 => ?_⟩
    have := r j f x v h1 h2
    cases x with
    | d y => exact Rep.grow g this
    | cell n =>
      obtain ⟨l, b, p, z⟩ := this
      exact ⟨l, b, g.get p, z⟩
  | fzd ks ds =>
    rcases h with ⟨o, ⟨kvs, q, k, r⟩ | ⟨kvs, q, k, r⟩⟩
    · exact ⟨o, .inl ⟨kvs, e.trans q, k, r.grow g⟩⟩
    · exact ⟨o, .inr ⟨kvs, e.trans q, k, r.grow g⟩⟩
theorem Cells.at {C : Ctx} {κ : Ks} {H : Hp} {S : Store} (c : Cells C κ H S) {n : Nat} {x : Cell} (e : S[n]? = some x) : ∃ a, κ.cells[n]? = some a ∧ CellOk C κ H n a x := by
  have hn : n < κ.cells.length := by rw [c.len]; exact (List.getElem?_eq_some_iff.mp e).1
  exact ⟨κ.cells[n], List.getElem?_eq_getElem hn, c.ok n x _ e (List.getElem?_eq_getElem hn)⟩
/-- the heap has grown, the cells' own objects stand -/
theorem Cells.keep {C : Ctx} {κ : Ks} {H H' : Hp} {S : Store} (c : Cells C κ H S) (g : Grow κ H κ H') (e : ∀ a ∈ κ.cells, H' a = H a) : Cells C κ H' S :=
  ⟨c.len, c.nd, fun n x a h1 h2 => (c.ok n x a h1 h2).grow g (e a (List.mem_of_getElem? h2)), fun a m => let ⟨n, o, q⟩ := c.occ a m; ⟨n, o, g.keep a o n q⟩⟩
theorem Cells.has {C : Ctx} {κ : Ks} {H : Hp} {S : Store} (c : Cells C κ H S) {a : Addr} (m : a ∈ κ.cells) : ∃ o, H a = some o := by
  obtain ⟨n, hn, e⟩ := List.getElem_of_mem m
  have hs : n < S.length := by rw [← c.len]; exact hn
  have := c.ok n S[n] a (List.getElem?_eq_getElem hs) (by rw [← e]; exact List.getElem?_eq_getElem hn)
  cases q : S[n] with
  | lst ys => rw [q] at this; obtain ⟨vs, z, _⟩ := this; exact ⟨_, z⟩
  | dct ks ds =>
    rw [q] at this
    rcases this with ⟨_, z, _⟩ | ⟨_, z, _⟩
    · exact ⟨_, z⟩
    · exact ⟨_, z⟩
  | ins c fs => rw [q] at this; obtain ⟨_, _, _, _, z, _⟩ := this; exact ⟨_, z⟩
  | fzd ks ds =>
    rw [q] at this
    rcases this with ⟨_, ⟨_, z, _⟩ | ⟨_, z, _⟩⟩
    · exact ⟨_, z⟩
    · exact ⟨_, z⟩
theorem Cells.laid {C : Ctx} {κ : Ks} {H : Hp} {S : Store} {p : Addr} {o : HO} (c : Cells C κ H S) (h : H p = none) : Cells C κ (upd H p o) S :=
  c.keep (.laid h) fun a m => by
    obtain ⟨u, e⟩ := c.has m
    exact upd_ne (ne_of_none e h)
theorem Cells.notin {C : Ctx} {κ : Ks} {H : Hp} {S : Store} (c : Cells C κ H S) {p : Addr} (hp : H p = none) : p ∉ κ.cells := fun m => by
  obtain ⟨o, e⟩ := c.has m
  rw [hp] at e; cases e

/-! ### one more address that no data lies at -/
theorem Rep.ex {C : Ctx} {κ : Ks} {H : Hp} {p : Addr} (hp : H p = none) {d : D} {v : V} (h : Rep C κ H d v) : Rep C (κ.ex p) H d v := h.grow (.lock hp)
theorem RepL.ex {C : Ctx} {κ : Ks} {H : Hp} {p : Addr} (hp : H p = none) {d : List D} {v : List V} (h : RepL C κ H d v) : RepL C (κ.ex p) H d v := h.grow (.lock hp)
/-- fewer such addresses -/
structure Less (κ κ' : Ks) : Prop where
  out : ∀ a, κ.out a → κ'.out a
theorem Less.stp {κ κ' : Ks} {H : Hp} (l : Less κ κ') : Stp κ H κ' H := ⟨fun _ _ _ h => h, fun a _ n _ => l.out a n, fun _ _ h => h, fun _ _ _ h _ _ => h⟩
theorem Rep.less {C : Ctx} {κ κ' : Ks} {H : Hp} (l : Less κ κ') {d : D} {v : V} (h : Rep C κ H d v) : Rep C κ' H d v := h.stp l.stp
theorem RepL.less {C : Ctx} {κ κ' : Ks} {H : Hp} (l : Less κ κ') {d : List D} {v : List V} (h : RepL C κ H d v) : RepL C κ' H d v := h.stp l.stp
/-- a list that no data lies at is changed -/
theorem Stp.upd {κ : Ks} {H : Hp} {p : Addr} {xs : List V} {u : HO} (m : p ∈ κ.more) (h : H p = some (.lst xs)) : Stp κ H κ (upd H p u) := by
  refine ⟨fun a o n e => ?_, fun a o n _ => n, fun a ys e => ?_, fun a o w e _ _ => ?_⟩
  · rw [upd_ne (fun z => n.2 (by rw [z]; exact m))]; exact e
  · rw [upd_ne (fun z => by rw [z, h] at e; cases e)]; exact e
  · rw [upd_ne (fun z => by rw [z, h] at e; cases e)]; exact e
theorem Ks.ex_less (κ : Ks) (p : Addr) : Less (κ.ex p) κ := ⟨fun a h => ⟨h.1, fun m => h.2 (List.mem_cons_of_mem _ m)⟩⟩
theorem RepV.ex {C : Ctx} {κ : Ks} {H : Hp} {p : Addr} (hp : H p = none) {d : Val} {v : V} (h : RepV C κ H d v) : RepV C (κ.ex p) H d v := h.grow (.lock hp)
theorem RepV.unex {C : Ctx} {κ : Ks} {H : Hp} {p : Addr} {d : Val} {v : V} (h : RepV C (κ.ex p) H d v) : RepV C κ H d v := by
  cases d with
  | d x => exact Rep.less (κ.ex_less p) h
  | cell n => exact h
theorem CellOk.imp {C : Ctx} {κ κ' : Ks} {H : Hp} {i : Nat} {a : Addr} {c : Cell} (r1 : ∀ {d v}, Rep C κ H d v → Rep C κ' H d v) (r2 : ∀ {ds vs}, RepL C κ H ds vs → RepL C κ' H ds vs) (hc : ∀ (n : Nat) b, n < i → κ.cells[n]? = some b → κ'.cells[n]? = some b) (h : CellOk C κ H i a c) : CellOk C κ' H i a c := by
  cases c with
  | lst ys =>
    obtain ⟨vs, q, r⟩ := h
    exact ⟨vs, q, r2 r⟩
  | dct ks ds =>
    rcases h with ⟨kvs, q, k, r⟩ | ⟨kvs, q, k, r⟩
    · exact .inl ⟨kvs, q, k, r2 r⟩
    · exact .inr ⟨kvs, q, k, r2 r⟩
  | ins c fs =>
    obtain ⟨Ca, dx, fvs, m, q, k, r⟩ := h
    refine ⟨Ca, dx, fvs, m, q, k, fun j f x v h1 h2 => ?_⟩
    have := r j f x v h1 h2
    cases x with
    | d y => exact r1 this
    | cell n =>
      obtain ⟨l, b, p, z⟩ := this
      exact ⟨l, b, hc n b l p, z⟩
  | fzd ks ds =>
    rcases h with ⟨o, ⟨kvs, q, k, r⟩ | ⟨kvs, q, k, r⟩⟩
    · exact ⟨o, .inl ⟨kvs, q, k, r2 r⟩⟩
    · exact ⟨o, .inr ⟨kvs, q, k, r2 r⟩⟩
theorem Cells.lay_ex {C : Ctx} {κ : Ks} {H : Hp} {S : Store} {p : Addr} {u : HO} (hp : H p = none) (c : Cells C κ H S) : Cells C (κ.ex p) (upd H p u) S :=
  have g : Grow (κ.ex p) H (κ.ex p) (upd H p u) := .laid hp
  ⟨c.len, c.nd, fun n x a h1 h2 => ((c.ok n x a h1 h2).imp (Rep.ex hp) (RepL.ex hp) (fun _ _ _ h => h)).grow g (by
      obtain ⟨o, e⟩ := c.has (List.mem_of_getElem? h2)
      exact upd_ne (ne_of_none e hp)), fun a m => by
    rcases List.mem_cons.mp m with e | m
    · subst e
      exact ⟨c.notin hp, u, upd_same⟩
    · obtain ⟨n, o, q⟩ := c.occ a m
      exact ⟨n, o, by rw [upd_ne (ne_of_none q hp)]; exact q⟩⟩
theorem Cells.unex {C : Ctx} {κ : Ks} {H : Hp} {S : Store} {p : Addr} (c : Cells C (κ.ex p) H S) : Cells C κ H S :=
  ⟨c.len, c.nd, fun n x a h1 h2 => (c.ok n x a h1 h2).imp (Rep.less (κ.ex_less p)) (RepL.less (κ.ex_less p)) (fun _ _ _ h => h), fun a m => c.occ a (List.mem_cons_of_mem _ m)⟩
theorem Cells.less {C : Ctx} {κ κ' : Ks} {H : Hp} {S : Store} (c : Cells C κ H S) (e : κ'.cells = κ.cells) (m : ∀ a ∈ κ'.more, a ∈ κ.more) : Cells C κ' H S := by
  have l : Less κ κ' := ⟨fun a h => ⟨by rw [e]; exact h.1, fun z => h.2 (m a z)⟩⟩
  refine ⟨by rw [e]; exact c.len, by rw [e]; exact c.nd, fun n x a h1 h2 => (c.ok n x a h1 (by rw [← e]; exact h2)).imp (Rep.less l) (RepL.less l) (fun k b _ h => by rw [e]; exact h), fun a z => by rw [e]; exact c.occ a (m a z)⟩
/-- one of these addresses given back -/
def Ks.drop (κ : Ks) (p : Addr) : Ks := { κ with more := κ.more.filter fun a => decide (a ≠ p) }
theorem Ks.drop_notin (κ : Ks) (p : Addr) : p ∉ (κ.drop p).more := fun m => by
  have := (List.mem_filter.mp m).2
  simp at this
theorem Ks.drop_mem {κ : Ks} {p a : Addr} (m : a ∈ ((κ.drop p).ex p).more) (h : p ∈ κ.more) : a ∈ κ.more := by
  rcases List.mem_cons.mp m with e | m
  · rw [e]; exact h
  · exact (List.mem_filter.mp m).1
theorem Cells.out {C : Ctx} {κ : Ks} {H : Hp} {S : Store} (c : Cells C κ H S) {p : Addr} (hp : H p = none) : κ.out p :=
  ⟨c.notin hp, fun m => by
    obtain ⟨_, o, e⟩ := c.occ p m
    rw [hp] at e; cases e⟩
/-- a new address becomes a cell -/
theorem push_less (κ : Ks) (p : Addr) : Less (κ.ex p) (κ.push p) := ⟨fun a h => ⟨fun m => (List.mem_append.mp m).elim h.1 fun z => h.2 (by rw [List.mem_singleton.mp z]; exact List.mem_cons_self), fun m => h.2 (List.mem_cons_of_mem _ m)⟩⟩
theorem Ks.push_get {κ : Ks} {p : Addr} {n : Nat} {a : Addr} (e : κ.cells[n]? = some a) : (κ.push p).cells[n]? = some a := by
  show (κ.cells ++ [p])[n]? = some a
  rw [List.getElem?_append_left (List.getElem?_eq_some_iff.mp e).1]
  exact e
theorem Cells.push {C : Ctx} {κ : Ks} {H : Hp} {S : Store} {p : Addr} {x : Cell} (c : Cells C (κ.ex p) H S) (hp : p ∉ κ.more) (k : CellOk C (κ.ex p) H S.length p x) : Cells C (κ.push p) H (S ++ [x]) := by
  have hl : κ.cells.length = S.length := c.len
  have hc : p ∉ κ.cells := (c.occ p List.mem_cons_self).1
  refine ⟨?_, ?_, fun n y a h1 h2 => ?_, fun a m => ?_⟩
  · show (κ.cells ++ [p]).length = _
    rw [List.length_append, List.length_append, hl]
    rfl
  · show (κ.cells ++ [p]).Nodup
    rw [List.nodup_append]
    exact ⟨c.nd, List.nodup_cons.mpr ⟨List.not_mem_nil, List.nodup_nil⟩, fun a ha b hb e => hc (by rw [← List.mem_singleton.mp hb, ← e]; exact ha)⟩
  · have hpl := push_less κ p
    by_cases hn : n < S.length
    · have e1 : S[n]? = some y := by rw [List.getElem?_append_left hn] at h1; exact h1
      have e2 : κ.cells[n]? = some a := by
        have : (κ.cells ++ [p])[n]? = some a := h2
        rw [List.getElem?_append_left (by omega)] at this
        exact this
      exact (c.ok n y a e1 e2).imp (Rep.less hpl) (RepL.less hpl) fun _ _ _ h => Ks.push_get h
    · have hn2 : n = S.length := by
        have := (List.getElem?_eq_some_iff.mp h1).1
        rw [List.length_append] at this
        have : n < S.length + 1 := this
        omega
      subst hn2
      have e1 : y = x := by
        rw [List.getElem?_append_right (Nat.le_refl _), Nat.sub_self] at h1
        exact (Option.some.inj h1).symm
      have e2 : a = p := by
        have : (κ.cells ++ [p])[S.length]? = some a := h2
        rw [List.getElem?_append_right (by omega), hl, Nat.sub_self] at this
        exact (Option.some.inj this).symm
      subst e1 e2
      exact k.imp (Rep.less hpl) (RepL.less hpl) fun _ _ _ h => Ks.push_get h
  · obtain ⟨n, o, q⟩ := c.occ a (List.mem_cons_of_mem _ m)
    refine ⟨fun z => ?_, o, q⟩
    rcases List.mem_append.mp z with z | z
    · exact n z
    · exact hp (by rw [← List.mem_singleton.mp z]; exact m)
/-- the cells where a list that no data lies at is changed -/
theorem Cells.upd {C : Ctx} {κ : Ks} {H : Hp} {S : Store} {p : Addr} {xs : List V} {u : HO} (c : Cells C κ H S) (m : p ∈ κ.more) (h : H p = some (.lst xs)) : Cells C κ (upd H p u) S := by
  have st : Stp κ H κ (L2.upd H p u) := .upd m h
  refine ⟨c.len, c.nd, fun n x a h1 h2 => ?_, fun a z => ?_⟩
  · have e : L2.upd H p u a = H a := upd_ne fun z => (c.occ p m).1 (by rw [← z]; exact List.mem_of_getElem? h2)
    have := c.ok n x a h1 h2
    cases x with
    | lst ys =>
      obtain ⟨vs, q, r⟩ := this
      exact ⟨vs, e.trans q, r.stp st⟩
    | dct ks ds =>
      rcases this with ⟨kvs, q, k, r⟩ | ⟨kvs, q, k, r⟩
      · exact .inl ⟨kvs, e.trans q, k, r.stp st⟩
      · exact .inr ⟨kvs, e.trans q, k, r.stp st⟩
    | ins c fs =>
      obtain ⟨Ca, dx, fvs, m, q, k, r⟩ := this
      refine ⟨Ca, dx, fvs, m, e.trans q, k, fun j f x v h1 h2 => ?_⟩
      have := r j f x v h1 h2
      cases x with
      | d y => exact Rep.stp st this
      | cell n => exact this
    | fzd ks ds =>
      rcases this with ⟨o, ⟨kvs, q, k, r⟩ | ⟨kvs, q, k, r⟩⟩
      · exact ⟨o, .inl ⟨kvs, e.trans q, k, r.stp st⟩⟩
      · exact ⟨o, .inr ⟨kvs, e.trans q, k, r.stp st⟩⟩
  · obtain ⟨n, o, q⟩ := c.occ a z
    by_cases e : a = p
    · exact ⟨n, u, by rw [e]; exact upd_same⟩
    · exact ⟨n, o, by rw [upd_ne e]; exact q⟩
theorem Grow.upd_new {κ κ' : Ks} {H H' : Hp} {p : Addr} {u : HO} (g : Grow κ H κ' H') (h : H p = none) : Grow κ H κ' (upd H' p u) :=
  ⟨g.pre, g.more, g.held, fun a o n e => by rw [upd_ne (ne_of_none e h)]; exact g.keep a o n e, g.new, fun a o e => by rw [upd_ne (ne_of_none e h)]; exact g.there a o e, fun a xs e => by rw [upd_ne (ne_of_none e h)]; exact g.tups a xs e, fun a o w e => by rw [upd_ne (ne_of_none e h)]; exact g.frzs a o w e⟩
end Dn

/-! Dn1: readings by plain functions: expressions, argument lists, tests. -/
namespace Dn
open PySem PySem.Spec PyProof.Rows L2

def RepVs (C : Ctx) (κ : Ks) (H : Hp) : List Val → List V → Prop
  | [], vs => vs = []
  | d :: ds, vs => ∃ v r, vs = v :: r ∧ RepV C κ H d v ∧ RepVs C κ H ds r
theorem RepVs.grow {C : Ctx} {κ κ' : Ks} {H H' : Hp} (g : Grow κ H κ' H') : ∀ {ds : List Val} {vs : List V}, RepVs C κ H ds vs → RepVs C κ' H' ds vs
  | [], _, h => h
  | d :: ds, _, ⟨v, r, e, h1, h2⟩ => ⟨v, r, e, h1.grow g, RepVs.grow g h2⟩
theorem RepVs.length {C : Ctx} {κ : Ks} {H : Hp} : ∀ {ds : List Val} {vs : List V}, RepVs C κ H ds vs → vs.length = ds.length
  | [], _, h => by rw [show _ = [] from h]; rfl
  | d :: ds, _, ⟨v, r, e, h1, h2⟩ => by rw [e, List.length_cons, List.length_cons, RepVs.length h2]
theorem RepVs.get {C : Ctx} {κ : Ks} {H : Hp} : ∀ {ds : List Val} {vs : List V} {i : Nat} {d : Val}, RepVs C κ H ds vs → ds[i]? = some d → ∃ v, vs[i]? = some v ∧ RepV C κ H d v
  | [], _, _, _, _, e => by simp at e
  | d :: ds, _, 0, _, ⟨v, r, q, h1, _⟩, e => by
    simp at e; subst e q; exact ⟨v, by simp, h1⟩
  | d :: ds, _, i + 1, d', ⟨v, r, q, _, h2⟩, e => by
    subst q
    obtain ⟨v', e', h'⟩ := RepVs.get (i := i) (d := d') h2 (by simpa using e)
    exact ⟨v', by simpa using e', h'⟩

/-- how an exception stands: its class, its own dict -/
def ExcRep (C : Ctx) (κ : Ks) (H : Hp) (e : Exc) (cls : Value) (dd : Option Addr) : Prop :=
  ∃ Ca, C.mg e.cls = some (.ref Ca) ∧ cls = .ref Ca ∧
    match e.fs with
    | [] => dd = none
    | (f, x) :: _ => ∃ dx v, dd = some dx ∧ H dx = some (.xd [(f, v)]) ∧ e.fs = [(f, x)] ∧ Rep C κ H x v

section
variable {α β : Type} (C : Ctx) (rel : Ks → Hp → α → β → Prop)
/-- what is wanted of an outcome -/
def PostG (κ : Ks) (H : Hp) (o : Out α) (Q : β → Hp → Prop) (E : XK) : Prop := match o with
  | .ok a S' => ∀ b κ' H', Grow κ H κ' H' → Cells C κ' H' S' → rel κ' H' a b → Q b H'
  | .exc e S' => ∀ cls dd κ' H', Grow κ H κ' H' → Cells C κ' H' S' → ExcRep C κ' H' e cls dd → E cls dd H'
  | .bad => False
/-- a reading by a plain function -/
def Ev (W : WX) (f : Env' → M α) : L2.St → Hp → (β → Hp → Prop) → Prop := fun σ H Q =>
  ∃ κ ρ S, Sim C κ H σ ρ S ∧ PostG C rel κ H (f ρ S) Q (fun c d H' => W c d σ H')
end
abbrev relV (C : Ctx) : Ks → Hp → Val → V → Prop := fun κ H a b => RepV C κ H a b
abbrev relVs (C : Ctx) : Ks → Hp → List Val → List V → Prop := fun κ H a b => RepVs C κ H a b
abbrev relEq {α : Type} : Ks → Hp → α → α → Prop := fun _ _ a b => a = b

section
variable {α β γ δ : Type} {C : Ctx} {rel : Ks → Hp → α → β → Prop} {rel1 : Ks → Hp → γ → δ → Prop} {κ κ' : Ks} {H H' : Hp} {W : WX} {E : XK}
theorem PostG.grow {o : Out α} {Q : β → Hp → Prop} (g : Grow κ H κ' H') (h : PostG C rel κ H o Q E) : PostG C rel κ' H' o Q E := by
  cases o with
  | ok a S => exact fun b k2 H2 g2 c r => h b k2 H2 (g.trans g2) c r
  | exc e S => exact fun cl dd k2 H2 g2 c r => h cl dd k2 H2 (g.trans g2) c r
  | bad => exact h
theorem PostG.bind {o : Out γ} {f : γ → M α} {Q : β → Hp → Prop} (h : PostG C rel κ H (o.bind f) Q E) :
    PostG C rel1 κ H o (fun b H1 => ∃ κ1 S1 a, Grow κ H κ1 H1 ∧ Cells C κ1 H1 S1 ∧ rel1 κ1 H1 a b ∧ PostG C rel κ1 H1 (f a S1) Q E) E := by
  cases o with
  | ok a S => exact fun b κ1 H1 g c r => ⟨κ1, S, a, g, c, r, PostG.grow g h⟩
  | exc e S => exact h
  | bad => exact h
theorem PostG.mono {o : Out α} {Q Q' : β → Hp → Prop} (h : PostG C rel κ H o Q E) (m : ∀ b H', Q b H' → Q' b H') : PostG C rel κ H o Q' E := by
  cases o with
  | ok a S => exact fun b k2 H2 g2 c r => m _ _ (h b k2 H2 g2 c r)
  | exc e S => exact h
  | bad => exact h
/-- the first of two -/
theorem Ev.bind {σ : L2.St} {ρ : Env'} {S : Store} {f : Env' → M γ} {k : γ → M α} {Q : β → Hp → Prop} (s : Sim C κ H σ ρ S) (h : PostG C rel κ H ((f ρ S).bind k) Q (fun c d H' => W c d σ H')) :
    Ev C rel1 W f σ H (fun b H1 => ∃ κ1 S1 a, Grow κ H κ1 H1 ∧ Sim C κ1 H1 σ ρ S1 ∧ rel1 κ1 H1 a b ∧ PostG C rel κ1 H1 (k a S1) Q (fun c d H' => W c d σ H')) := by
  refine ⟨κ, ρ, S, s, (PostG.bind (rel1 := rel1) h).mono ?_⟩
  rintro b H1 ⟨κ1, S1, a, g, c, r, p⟩
  exact ⟨κ1, S1, a, g, s.grow g c, r, p⟩
theorem PostG.ok {a : α} {b : β} {S : Store} {Q : β → Hp → Prop} (h : PostG C rel κ H (.ok a S) Q E) (c : Cells C κ H S) (r : rel κ H a b) : Q b H := h b κ H (.refl _ _) c r
end

section
variable {X : Cx}
abbrev cx (X : Cx) : Ctx := ⟨X.K, X.mg⟩
abbrev DE (X : Cx) (W : WX) (e : Expr) (f : Env' → M Val) : Prop := PE X e (Ev (cx X) (relV (cx X)) W f)
abbrev DT (X : Cx) (W : WX) (e : Expr) (f : Env' → M Bool) : Prop := PT X e (Ev (cx X) relEq W f)
abbrev DW (X : Cx) (W : WX) (e : Expr) (f : Env' → M Bool) : Prop := PW X e (Ev (cx X) relEq W f)
abbrev DA (X : Cx) (W : WX) (es : List Expr) (f : Env' → M (List Val)) : Prop := PA X es (Ev (cx X) (relVs (cx X)) W f)
theorem pe_imp {e : Expr} {t t' : TE} (h : PE X e t) (i : ∀ σ H Q, t' σ H Q → t σ H Q) : PE X e t' := ⟨fun pins s σ H Q I q => h.run pins s σ H Q I (i σ H Q q)⟩
theorem pt_imp {e : Expr} {t t' : TT} (h : PT X e t) (i : ∀ σ H Q, t' σ H Q → t σ H Q) : PT X e t' := ⟨fun pins s σ H Q I q => h.run pins s σ H Q I (i σ H Q q)⟩
theorem pw_imp {e : Expr} {t t' : TT} (h : PW X e t) (i : ∀ σ H Q, t' σ H Q → t σ H Q) : PW X e t' := ⟨fun w pins s σ H Q I q => h.run w pins s σ H Q I (i σ H Q q)⟩
theorem pa_imp {e : List Expr} {t t' : TA} (h : PA X e t) (i : ∀ σ H Q, t' σ H Q → t σ H Q) : PA X e t' := ⟨fun p pins s σ H Q I q => h.run p pins s σ H Q I (i σ H Q q)⟩
theorem pk_imp {e : List Keyword} {t t' : TA} (h : PK X e t) (i : ∀ σ H Q, t' σ H Q → t σ H Q) : PK X e t' := ⟨fun p pins s σ H Q I q => h.run p pins s σ H Q I (i σ H Q q)⟩
theorem ps_imp {e : Stmt} {t t' : TS} (h : PS X e t) (i : ∀ D σ H, t' D σ H → t D σ H) : PS X e t' := ⟨fun pins s σ H Q I q => h.run pins s σ H Q I (i Q σ H q)⟩
theorem pss_imp {e : List Stmt} {t t' : TS} (h : PSs X e t) (i : ∀ D σ H, t' D σ H → t D σ H) : PSs X e t' := ⟨fun pins s σ H Q I q => h.run pins s σ H Q I (i Q σ H q)⟩
end

/-! ### names, constants -/
def dVar (i : Nat) : Env' → M Val := fun ρ S => match ρ[i]? with
  | some (some v) => .ok v S
  | _ => .bad
def dC (x : D) : Env' → M Val := fun _ => M.pure (.d x)
section
variable {X : Cx} {W : WX} {pos : Pos}
theorem de_var (i : Nat) {x : Str} (h : PE X (.Name x pos) (tVar i)) : DE X W (.Name x pos) (dVar i) := pe_imp h fun σ H Q h => by
  obtain ⟨κ, ρ, S, s, p⟩ := h
  unfold dVar at p
  split at p
  · rename_i v e
    obtain ⟨u, q, r⟩ := s.env i v e
    exact ⟨u, q, PostG.ok p s.cells r⟩
  · exact p.elim
theorem de_C {e : Expr} {x : D} {v : V} (h : PE X e (tC v)) (r : ∀ κ H, Rep (cx X) κ H x v) : DE X W e (dC x) := pe_imp h fun σ H Q h => by
  obtain ⟨κ, ρ, S, s, p⟩ := h
  exact PostG.ok (a := Val.d x) p s.cells (r κ H)
theorem de_int {i : Int} {j} : DE X W (.Constant (.int i) j pos) (dC (.int i)) := de_C pe_int fun _ _ => by unfold Rep; rfl
theorem de_bl {b j} : DE X W (.Constant (.bool b) j pos) (dC (.bl b)) := de_C pe_bl fun _ _ => by unfold Rep; rfl
theorem de_non {j} : DE X W (.Constant .none j pos) (dC .non) := de_C pe_non fun _ _ => by unfold Rep; rfl
theorem de_str {x j} : DE X W (.Constant (.str x) j pos) (dC (.str x)) := de_C pe_str fun _ _ => by unfold Rep; rfl
theorem de_glo {x : Str} {a : Addr} (hg : Gl X x) (hm : X.mg x = some (.ref a)) (hd : (x == ("__debug__" : Str)) = false := by decide) : DE X W (.Name x pos) (dC (.glo x)) :=
  de_C (pe_glob (v := .ref a) hg hm rfl hd) fun _ _ => by unfold Rep; exact ⟨a, hm, rfl⟩
/-- a constant of the module that needs no heap -/
theorem de_gint {x : Str} {i : Int} {t : Tok} (hg : Gl X x) (hm : X.mg x = some (.int i t)) (hd : (x == ("__debug__" : Str)) = false := by decide) : DE X W (.Name x pos) (dC (.int i)) :=
  de_C (pe_glob (v := .int i) hg hm ⟨t, rfl⟩ hd) fun _ _ => by unfold Rep; rfl
theorem de_gstr {x z : Str} {t : Tok} (hg : Gl X x) (hm : X.mg x = some (.str z t)) (hd : (x == ("__debug__" : Str)) = false := by decide) : DE X W (.Name x pos) (dC (.str z)) :=
  de_C (pe_glob (v := .str z) hg hm ⟨t, rfl⟩ hd) fun _ _ => by unfold Rep; rfl
theorem de_bty {x : Str} {n : String} (hg : Gl X x) (hm : X.mg x = none) (hv : bootBuiltins x = some (.type n)) (hn : x ≠ "__name__" := by decide) (hd : (x == ("__debug__" : Str)) = false := by decide) : DE X W (.Name x pos) (dC (.ty n)) :=
  de_C (pe_bltn (v := .ty n) hg hm hv rfl hn hd) fun _ _ => by unfold Rep; rfl
end

/-! ### argument lists -/
def dNil : Env' → M (List Val) := fun _ => M.pure []
def dCons (f : Env' → M Val) (g : Env' → M (List Val)) : Env' → M (List Val) := fun ρ => M.bind (f ρ) fun a => M.bind (g ρ) fun r => M.pure (a :: r)
section
variable {X : Cx} {W : WX} {pos : Pos} {e : Expr} {es : List Expr} {f : Env' → M Val} {g : Env' → M (List Val)}
theorem da_nil : DA X W [] dNil := pa_imp pa_nil fun σ H Q h => by
  obtain ⟨κ, ρ, S, s, p⟩ := h
  exact PostG.ok (a := []) (b := []) p s.cells rfl
theorem ev_cons {C : Ctx} {σ : L2.St} {H : Hp} {Q : List V → Hp → Prop} (h : Ev C (relVs C) W (dCons f g) σ H Q) : tCons (Ev C (relV C) W f) (Ev C (relVs C) W g) σ H Q := by
  obtain ⟨κ, ρ, S, s, p⟩ := h
  obtain ⟨k1, r1, s1, sm, q⟩ := Ev.bind (rel1 := relV C) s p
  refine ⟨k1, r1, s1, sm, q.mono ?_⟩
  rintro x H1 ⟨κ1, S1, a, g1, sm1, rx, p1⟩
  obtain ⟨k2, r2, s2, sm2, q2⟩ := Ev.bind (rel1 := relVs C) sm1 p1
  refine ⟨k2, r2, s2, sm2, q2.mono ?_⟩
  rintro xs H2 ⟨κ2, S2, as, g2, sm2, rxs, p2⟩
  exact PostG.ok (a := a :: as) p2 sm2.cells ⟨x, xs, rfl, rx.grow g2, rxs⟩
theorem da_cons (ha : DE X W e f) (hr : DA X W es g) (hs : starEach (e :: es) X.env = (false, eval e X.env) :: starEach es X.env := by rfl) : DA X W (e :: es) (dCons f g) :=
  pa_imp (pa_cons ha hr hs) fun σ H Q h => ev_cons h
end

/-! ### displays -/
/-- values that are data -/
def toDs : List Val → Option (List D)
  | [] => some []
  | .d x :: r => (toDs r).map (x :: ·)
  | .cell _ :: _ => none
theorem toDs_rep {C : Ctx} {κ : Ks} {H : Hp} : ∀ {ds : List Val} {xs : List D} {vs : List V}, toDs ds = some xs → RepVs C κ H ds vs → RepL C κ H xs vs
  | [], _, _, e, h => by cases e; rw [show _ = [] from h]; exact .nil
  | .d x :: r, _, _, e, ⟨v, t, q, h1, h2⟩ => by
    unfold toDs at e
    obtain ⟨ys, e1, e2⟩ := Option.map_eq_some_iff.mp e
    subst e2 q
    exact .cons h1 (toDs_rep e1 h2)
  | .cell _ :: _, _, _, e, _ => by cases e
def mkTup (vs : List Val) : M Val := fun S => match toDs vs with
  | some xs => if xs.length ≤ 1000000 then .ok (.d (.tup xs)) S else .bad
  | none => .bad
def mkLst (vs : List Val) : M Val := fun S => match toDs vs with
  | some xs => if xs.length ≤ 1000000 then .ok (.d (.lst xs)) S else .bad
  | none => .bad
def dTup (g : Env' → M (List Val)) : Env' → M Val := fun ρ => M.bind (g ρ) mkTup
def dLst (g : Env' → M (List Val)) : Env' → M Val := fun ρ => M.bind (g ρ) mkLst
theorem mil_line {n : Nat} (h : n ≤ 1000000) : n ≤ sizeLine := by rw [sizeLine_eq]; omega
section
variable {X : Cx} {W : WX} {pos : Pos} {es : List Expr} {g : Env' → M (List Val)}
/-- a new tuple -/
theorem new_tup {C : Ctx} {κ : Ks} {H : Hp} {S : Store} {xs : List D} {vs : List V} {p : Addr} {Q : V → Hp → Prop} {E : XK} (c : Cells C κ H S) (r : RepL C κ H xs vs) (hp : H p = none)
    (h : PostG C (relV C) κ H (.ok (.d (.tup xs)) S) Q E) : Q (.ref p) (upd H p (.tup vs)) :=
  h _ κ _ (.laid hp) (c.laid hp) (by
    show Rep C κ _ (.tup xs) _
    unfold Rep
    exact ⟨p, vs, rfl, upd_same, r.grow (.laid hp)⟩)
theorem new_lst {C : Ctx} {κ : Ks} {H : Hp} {S : Store} {xs : List D} {vs : List V} {p : Addr} {Q : V → Hp → Prop} {E : XK} (c : Cells C κ H S) (r : RepL C κ H xs vs) (hp : H p = none)
    (h : PostG C (relV C) κ H (.ok (.d (.lst xs)) S) Q E) : Q (.ref p) (upd H p (.lst vs)) :=
  h _ κ _ (.laid hp) (c.laid hp) (by
    show Rep C κ _ (.lst xs) _
    unfold Rep
    exact ⟨p, vs, rfl, upd_same, c.out hp, r.grow (.laid hp)⟩)
theorem de_tup {x1} (h : DA X W es g) : DE X W (.Tuple es x1 pos) (dTup g) := pe_imp (pe_tup h) fun σ H Q h => by
  obtain ⟨κ, ρ, S, s, p⟩ := h
  obtain ⟨k1, r1, s1, sm, q⟩ := Ev.bind (rel1 := relVs (cx X)) s p
  refine ⟨k1, r1, s1, sm, q.mono ?_⟩
  rintro vs H1 ⟨κ1, S1, a, g1, sm1, rx, p1⟩
  unfold mkTup at p1
  split at p1
  · rename_i xs e
    split at p1
    · rename_i hz
      have r := toDs_rep e rx
      exact ⟨mil_line (by rw [r.length]; exact hz), fun p hp => new_tup sm1.cells r hp p1⟩
    · exact p1.elim
  · exact p1.elim
theorem de_lst (h : DA X W es g) : DE X W (.List es pos) (dLst g) := pe_imp (pe_lst h) fun σ H Q h => by
  obtain ⟨κ, ρ, S, s, p⟩ := h
  obtain ⟨k1, r1, s1, sm, q⟩ := Ev.bind (rel1 := relVs (cx X)) s p
  refine ⟨k1, r1, s1, sm, q.mono ?_⟩
  rintro vs H1 ⟨κ1, S1, a, g1, sm1, rx, p1⟩
  unfold mkLst at p1
  split at p1
  · rename_i xs e
    split at p1
    · rename_i hz
      have r := toDs_rep e rx
      exact ⟨mil_line (by rw [r.length]; exact hz), fun p hp => new_lst sm1.cells r hp p1⟩
    · exact p1.elim
  · exact p1.elim
end

/-! ### reading a value as data: a cell by what it holds -/
def rd (v : Val) (S : Store) : Option D := match v with
  | .d x => some x
  | .cell n => match S[n]? with
    | some (.lst xs) => some (.lst xs)
    | some (.dct ks ds) => some (.dct ks ds)
    | _ => none
def RepR (C : Ctx) (κ : Ks) (H : Hp) : D → V → Prop
  | .lst xs, v => ∃ a vs, v = .ref a ∧ H a = some (.lst vs) ∧ RepL C κ H xs vs
  | .dct ks ds, v => ∃ a, v = .ref a ∧
      ((∃ kvs : List (Key × V), H a = some (.dK kvs) ∧ ks = kvs.map (fun p => keyD p.1) ∧ RepL C κ H ds (kvs.map (·.2))) ∨
       (∃ kvs : List (List Key × V), H a = some (.dT kvs) ∧ ks = .non :: kvs.map (fun p => .tup (p.1.map keyD)) ∧ RepL C κ H ds (kvs.map (·.2))))
  | d, v => Rep C κ H d v
theorem Rep.toR {C : Ctx} {κ : Ks} {H : Hp} {d : D} {v : V} (h : Rep C κ H d v) : RepR C κ H d v := by
  cases d with
  | lst xs => unfold Rep at h; obtain ⟨a, vs, e, s, _, r⟩ := h; exact ⟨a, vs, e, s, r⟩
  | dct ks ds => unfold Rep at h; obtain ⟨a, e, _, r⟩ := h; exact ⟨a, e, r⟩
  | _ => exact h
theorem rd_rep {C : Ctx} {κ : Ks} {H : Hp} {S : Store} {v : Val} {x : D} {u : V} (c : Cells C κ H S) (r : RepV C κ H v u) (e : rd v S = some x) : RepR C κ H x u := by
  cases v with
  | d y => cases e; exact Rep.toR r
  | cell n =>
    obtain ⟨a, h1, h2⟩ := r
    unfold rd at e
    cases q : S[n]? with
    | none => simp [q] at e
    | some y =>
      have := c.ok n y a q h1
      cases y with
      | lst xs =>
        simp [q] at e; subst e
        obtain ⟨vs, z, r⟩ := this
        exact ⟨a, vs, h2, z, r⟩
      | dct ks ds =>
        simp [q] at e; subst e
        exact ⟨a, h2, this⟩
      | ins _ _ => simp [q] at e
      | fzd _ _ => simp [q] at e
theorem RepV.bl {C : Ctx} {κ : Ks} {H : Hp} {b : Bool} : RepV C κ H (.d (.bl b)) (.bl b) := by show Rep C κ H (.bl b) (.bl b); unfold Rep; rfl
theorem RepV.non {C : Ctx} {κ : Ks} {H : Hp} : RepV C κ H (.d .non) .non := by show Rep C κ H .non .non; unfold Rep; rfl
theorem RepV.int {C : Ctx} {κ : Ks} {H : Hp} {b : Int} : RepV C κ H (.d (.int b)) (.int b) := by show Rep C κ H (.int b) (.int b); unfold Rep; rfl
theorem Rep.int_iff {C : Ctx} {κ : Ks} {H : Hp} {i : Int} {v : V} : Rep C κ H (.int i) v ↔ v = .int i := by unfold Rep; exact Iff.rfl
theorem Rep.bl_iff {C : Ctx} {κ : Ks} {H : Hp} {i : Bool} {v : V} : Rep C κ H (.bl i) v ↔ v = .bl i := by unfold Rep; exact Iff.rfl
theorem Rep.str_iff {C : Ctx} {κ : Ks} {H : Hp} {i : Str} {v : V} : Rep C κ H (.str i) v ↔ v = .str i := by unfold Rep; exact Iff.rfl
theorem Rep.non_iff {C : Ctx} {κ : Ks} {H : Hp} {v : V} : Rep C κ H .non v ↔ v = .non := by unfold Rep; exact Iff.rfl
theorem Rep.ty_iff {C : Ctx} {κ : Ks} {H : Hp} {n : String} {v : V} : Rep C κ H (.ty n) v ↔ v = .ty n := by unfold Rep; exact Iff.rfl
theorem Rep.tup_iff {C : Ctx} {κ : Ks} {H : Hp} {xs : List D} {v : V} : Rep C κ H (.tup xs) v ↔ ∃ a vs, v = .ref a ∧ H a = some (.tup vs) ∧ RepL C κ H xs vs := by unfold Rep; exact Iff.rfl
theorem Rep.lst_iff {C : Ctx} {κ : Ks} {H : Hp} {xs : List D} {v : V} : Rep C κ H (.lst xs) v ↔ ∃ a vs, v = .ref a ∧ H a = some (.lst vs) ∧ κ.out a ∧ RepL C κ H xs vs := by unfold Rep; exact Iff.rfl
theorem Rep.scr_iff {C : Ctx} {κ : Ks} {H : Hp} {ns : List Int} {v : V} : Rep C κ H (.scr ns) v ↔ ∃ a, v = .ref a ∧ ScrOk C.K H a ns := by unfold Rep; exact Iff.rfl
theorem Rep.glo_iff {C : Ctx} {κ : Ks} {H : Hp} {x : Str} {v : V} : Rep C κ H (.glo x) v ↔ ∃ a, C.mg x = some (.ref a) ∧ v = .ref a := by unfold Rep; exact Iff.rfl

/-! ### operators by values -/
/-- what an operation g of two data gives -/
def rD2 (C : Ctx) (g : D → D → Option D) : R2 := fun x y H Q => ∃ κ S dx dy z, Cells C κ H S ∧ RepR C κ H dx x ∧ RepR C κ H dy y ∧ g dx dy = some z ∧
  ∀ v H', Grow κ H κ H' → Cells C κ H' S → Rep C κ H' z v → Q v H'
def rD1 (C : Ctx) (g : D → Option D) : V → Hp → VK → Prop := fun x H Q => ∃ κ S dx z, Cells C κ H S ∧ RepR C κ H dx x ∧ g dx = some z ∧
  ∀ v H', Grow κ H κ H' → Cells C κ H' S → Rep C κ H' z v → Q v H'
def op2 (g : D → D → Option D) (a b : Val) : M Val := fun S => match rd a S, rd b S with
  | some x, some y => match g x y with
    | some z => .ok (.d z) S
    | none => .bad
  | _, _ => .bad
def op1 (g : D → Option D) (a : Val) : M Val := fun S => match rd a S with
  | some x => match g x with
    | some z => .ok (.d z) S
    | none => .bad
  | _ => .bad
def dOp2 (g : D → D → Option D) (fa fb : Env' → M Val) : Env' → M Val := fun ρ => M.bind (fa ρ) fun a => M.bind (fb ρ) fun b => op2 g a b
def dOp1 (g : D → Option D) (fa : Env' → M Val) : Env' → M Val := fun ρ => M.bind (fa ρ) fun a => op1 g a
section
variable {X : Cx} {W : WX} {pos : Pos} {a b c : Expr} {fa fb fc : Env' → M Val} {g : D → D → Option D}
theorem op2_post {C : Ctx} {κ : Ks} {H : Hp} {S : Store} {a b : Val} {x y : V} {Q : VK} {E : XK} (c : Cells C κ H S) (ra : RepV C κ H a x) (rb : RepV C κ H b y) (h : PostG C (relV C) κ H (op2 g a b S) Q E) : rD2 C g x y H Q := by
  unfold op2 at h
  split at h
  · rename_i dx dy e1 e2
    split at h
    · rename_i z e3
      exact ⟨κ, S, dx, dy, z, c, rd_rep c ra e1, rd_rep c rb e2, e3, fun v H' g1 c1 r => h v κ H' g1 c1 r⟩
    · exact h.elim
  · exact h.elim
theorem op1_post {C : Ctx} {κ : Ks} {H : Hp} {S : Store} {a : Val} {x : V} {g : D → Option D} {Q : VK} {E : XK} (c : Cells C κ H S) (ra : RepV C κ H a x) (h : PostG C (relV C) κ H (op1 g a S) Q E) : rD1 C g x H Q := by
  unfold op1 at h
  split at h
  · rename_i dx e1
    split at h
    · rename_i z e3
      exact ⟨κ, S, dx, z, c, rd_rep c ra e1, e3, fun v H' g1 c1 r => h v κ H' g1 c1 r⟩
    · exact h.elim
  · exact h.elim
theorem ev_op2 {C : Ctx} {σ : L2.St} {H : Hp} {Q : VK} (h : Ev C (relV C) W (dOp2 g fa fb) σ H Q) : tOp (rD2 C g) (Ev C (relV C) W fa) (Ev C (relV C) W fb) σ H Q := by
  obtain ⟨κ, ρ, S, s, p⟩ := h
  obtain ⟨k1, r1, s1, sm, q⟩ := Ev.bind (rel1 := relV C) s p
  refine ⟨k1, r1, s1, sm, q.mono ?_⟩
  rintro x H1 ⟨κ1, S1, a, g1, sm1, rx, p1⟩
  obtain ⟨k2, r2, s2, sm2, q2⟩ := Ev.bind (rel1 := relV C) sm1 p1
  refine ⟨k2, r2, s2, sm2, q2.mono ?_⟩
  rintro y H2 ⟨κ2, S2, b, g2, sm2, ry, p2⟩
  exact op2_post sm2.cells (rx.grow g2) ry p2
theorem ev_op1 {C : Ctx} {g : D → Option D} {σ : L2.St} {H : Hp} {Q : VK} (h : Ev C (relV C) W (dOp1 g fa) σ H Q) : tUn (rD1 C g) (Ev C (relV C) W fa) σ H Q := by
  obtain ⟨κ, ρ, S, s, p⟩ := h
  obtain ⟨k1, r1, s1, sm, q⟩ := Ev.bind (rel1 := relV C) s p
  refine ⟨k1, r1, s1, sm, q.mono ?_⟩
  rintro x H1 ⟨κ1, S1, a, g1, sm1, rx, p1⟩
  exact op1_post sm1.cells rx p1
theorem de_op {op : Operator} (ho : OpR X (binaryOp op) (rD2 (cx X) g)) (ha : DE X W a fa) (hb : DE X W b fb) : DE X W (.BinOp a op b pos) (dOp2 g fa fb) := pe_imp (pe_op ho ha hb) fun _ _ _ h => ev_op2 h
theorem de_un {op : UnaryOp} {g : D → Option D} (ho : UnR X (unaryOp op) (rD1 (cx X) g)) (ha : DE X W a fa) : DE X W (.UnaryOp op a pos) (dOp1 g fa) := pe_imp (pe_un ho ha) fun _ _ _ h => ev_op1 h
theorem de_cmp {op : CmpOp} (ho : OpR X (compareOp op) (rD2 (cx X) g)) (ha : DE X W a fa) (hb : DE X W b fb) (hm : behindInMarks op b = false) : DE X W (.Compare a [op] [b] pos) (dOp2 g fa fb) := pe_imp (pe_cmpR ho ha hb hm) fun _ _ _ h => ev_op2 h
/-- a truth -/
def isBl (v : Val) : M Bool := fun S => match v with
  | .d (.bl b) => .ok b S
  | _ => .bad
def dTest (f : Env' → M Val) : Env' → M Bool := fun ρ => M.bind (f ρ) isBl
theorem isBl_post {C : Ctx} {κ : Ks} {H : Hp} {S : Store} {v : Val} {x : V} {Q : Bool → Hp → Prop} {E : XK} (c : Cells C κ H S) (r : RepV C κ H v x) (p : PostG C relEq κ H (isBl v S) Q E) : ∃ k, x = .bl k ∧ Q k H := by
  unfold isBl at p
  split at p
  · rename_i b
    exact ⟨b, Rep.bl_iff.mp (show Rep C κ H (.bl b) x from r), PostG.ok (a := b) (b := b) p c rfl⟩
  · exact p.elim
theorem ev_test {C : Ctx} {f : Env' → M Val} {σ : L2.St} {H : Hp} {Q : Bool → Hp → Prop} (h : Ev C relEq W (dTest f) σ H Q) : Ev C (relV C) W f σ H (fun x H1 => ∃ c, x = .bl c ∧ Q c H1) := by
  obtain ⟨κ, ρ, S, s, p⟩ := h
  obtain ⟨k1, r1, s1, sm, q⟩ := Ev.bind (rel1 := relV C) s p
  refine ⟨k1, r1, s1, sm, q.mono ?_⟩
  rintro x H1 ⟨κ1, S1, a, g1, sm1, rx, p1⟩
  exact isBl_post sm1.cells rx p1
theorem dt_cmp {op : CmpOp} (ho : OpR X (compareOp op) (rD2 (cx X) g)) (ha : DE X W a fa) (hb : DE X W b fb) (hm : behindInMarks op b = false) : DT X W (.Compare a [op] [b] pos) (dTest (dOp2 g fa fb)) :=
  pt_imp (pt_cmpR ho ha hb hm) fun _ _ _ h => ev_op2 (ev_test h)
theorem dt_val {f : Env' → M Val} {e : Expr} (h : DE X W e f) (he : ∀ whole, isTrue e X.env whole = (do let v ← whole; standAt e.pos; holding [v] (truthy v)) := by intro _; rfl) : DT X W e (dTest f) :=
  pt_imp (pt_val h he) fun _ _ _ h => ev_test h
/-- a < b < c -/
def op3k (g' : D → D → Option D) (b : Val) (fc : M Val) (k : Bool) : M Val := fun S => if k = true then M.bind fc (fun c => op2 g' b c) S else .ok (.d (.bl false)) S
def op3 (g g' : D → D → Option D) (a b : Val) (fc : M Val) : M Val := M.bind (op2 g a b) fun z => M.bind (isBl z) fun k => op3k g' b fc k
def dChain (g g' : D → D → Option D) (fa fb fc : Env' → M Val) : Env' → M Val := fun ρ => M.bind (fa ρ) fun a => M.bind (fb ρ) fun b => op3 g g' a b (fc ρ)
theorem op2_bind {C : Ctx} {κ : Ks} {H : Hp} {S : Store} {a b : Val} {x y : V} {k : Val → M Val} {Q : VK} {E : XK} (c : Cells C κ H S) (ra : RepV C κ H a x) (rb : RepV C κ H b y) (h : PostG C (relV C) κ H ((op2 g a b S).bind k) Q E) :
    rD2 C g x y H (fun z H1 => ∃ d, Grow κ H κ H1 ∧ Cells C κ H1 S ∧ RepV C κ H1 d z ∧ PostG C (relV C) κ H1 (k d S) Q E) := by
  unfold op2 at h
  split at h
  · rename_i dx dy e1 e2
    split at h
    · rename_i z e3
      exact ⟨κ, S, dx, dy, z, c, rd_rep c ra e1, rd_rep c rb e2, e3, fun v H' g1 c1 r => ⟨.d z, g1, c1, r, PostG.grow g1 h⟩⟩
    · exact h.elim
  · exact h.elim
theorem isBl_bind {α β : Type} {rel : Ks → Hp → α → β → Prop} {C : Ctx} {κ : Ks} {H : Hp} {S : Store} {v : Val} {x : V} {k : Bool → M α} {Q : β → Hp → Prop} {E : XK} (r : RepV C κ H v x) (p : PostG C rel κ H ((isBl v S).bind k) Q E) : ∃ b, x = .bl b ∧ PostG C rel κ H (k b S) Q E := by
  unfold isBl at p
  split at p
  · rename_i b
    exact ⟨b, Rep.bl_iff.mp (show Rep C κ H (.bl b) x from r), p⟩
  · exact p.elim
theorem op2_assoc {a b : Val} {S : Store} {k1 k2 : Val → M Val} : ((op2 g a b S).bind fun z => M.bind (k1 z) k2) = ((op2 g a b S).bind k1).bind k2 := by
  cases op2 g a b S <;> rfl
theorem ev_chain {C : Ctx} {g' : D → D → Option D} {σ : L2.St} {H : Hp} {Q : VK} (h : Ev C (relV C) W (dChain g g' fa fb fc) σ H Q) : tChain (rD2 C g) (rD2 C g') (Ev C (relV C) W fa) (Ev C (relV C) W fb) (Ev C (relV C) W fc) σ H Q := by
  obtain ⟨κ, ρ, S, s, p⟩ := h
  obtain ⟨k1, r1, s1, sm, q⟩ := Ev.bind (rel1 := relV C) s p
  refine ⟨k1, r1, s1, sm, q.mono ?_⟩
  rintro x H1 ⟨κ1, S1, a, g1, sm1, rx, p1⟩
  obtain ⟨k2, r2, s2, sm2, q2⟩ := Ev.bind (rel1 := relV C) sm1 p1
  refine ⟨k2, r2, s2, sm2, q2.mono ?_⟩
  rintro y H2 ⟨κ2, S2, b, g2, sm2, ry, p2⟩
  obtain ⟨κ3, S3, dx, dy, z, c3, rx3, ry3, e3, q3⟩ := op2_bind sm2.cells (rx.grow g2) ry p2
  refine ⟨κ3, S3, dx, dy, z, c3, rx3, ry3, e3, fun v H3 g3 c4 r => ?_⟩
  obtain ⟨d, g4, c5, r5, p5⟩ := q3 v H3 g3 c4 r
  obtain ⟨k, ek, p6⟩ := isBl_bind r5 p5
  refine ⟨k, ek, ?_⟩
  cases k with
  | false =>
    rw [if_neg Bool.false_ne_true]
    exact PostG.ok (a := Val.d (.bl false)) p6 c5 RepV.bl
  | true =>
    rw [if_pos rfl]
    obtain ⟨k7, r7, s7, sm7, q7⟩ := Ev.bind (rel1 := relV C) (sm2.grow g4 c5) (show PostG C (relV C) κ2 H3 ((fc ρ S2).bind fun c => op2 g' b c) Q _ from p6)
    refine ⟨k7, r7, s7, sm7, q7.mono ?_⟩
    rintro w H7 ⟨κ7, S7, c, g7, sm8, rw', p8⟩
    exact op2_post sm8.cells (ry.grow (g4.trans g7)) rw' p8
theorem de_chain {op op' : CmpOp} {g' : D → D → Option D} (ho : OpR X (compareOp op) (rD2 (cx X) g)) (ho' : OpR X (compareOp op') (rD2 (cx X) g')) (ha : DE X W a fa) (hb : DE X W b fb) (hc : DE X W c fc)
    (hm : lastMarks [op, op'] [b, c] = false := by with_unfolding_all rfl) : DE X W (.Compare a [op, op'] [b, c] pos) (dChain g g' fa fb fc) := pe_imp (pe_chain ho ho' ha hb hc hm) fun _ _ _ h => ev_chain h
theorem dt_chain {op op' : CmpOp} {g' : D → D → Option D} (ho : OpR X (compareOp op) (rD2 (cx X) g)) (ho' : OpR X (compareOp op') (rD2 (cx X) g')) (ha : DE X W a fa) (hb : DE X W b fb) (hc : DE X W c fc)
    (hm : lastMarks [op, op'] [b, c] = false := by with_unfolding_all rfl) : DT X W (.Compare a [op, op'] [b, c] pos) (dTest (dChain g g' fa fb fc)) := pt_imp (pt_chain ho ho' ha hb hc hm) fun _ _ _ h => ev_chain (ev_test h)
end

/-! ### and, or, not, if -/
def bAnd (a : Bool) (m : M Bool) : M Bool := fun S => if a = true then m S else .ok false S
def bOr (a : Bool) (m : M Bool) : M Bool := fun S => if a = true then .ok true S else m S
def bIf {α : Type} (a : Bool) (m m' : M α) : M α := fun S => if a = true then m S else m' S
def dAndT (f g : Env' → M Bool) : Env' → M Bool := fun ρ => M.bind (f ρ) fun a => bAnd a (g ρ)
def dOrT (f g : Env' → M Bool) : Env' → M Bool := fun ρ => M.bind (f ρ) fun a => bOr a (g ρ)
def dNotT (f : Env' → M Bool) : Env' → M Bool := fun ρ => M.bind (f ρ) fun a => M.pure (!a)
def dIf {α : Type} (c : Env' → M Bool) (f g : Env' → M α) : Env' → M α := fun ρ => M.bind (c ρ) fun a => bIf a (f ρ) (g ρ)
/-- .. as values: truths -/
def dAndV (f g : Env' → M Val) : Env' → M Val := fun ρ => M.bind (f ρ) fun a => M.bind (isBl a) fun k => bIf k (g ρ) (M.pure (.d (.bl false)))
def dOrV (f g : Env' → M Val) : Env' → M Val := fun ρ => M.bind (f ρ) fun a => M.bind (isBl a) fun k => bIf k (M.pure (.d (.bl true))) (g ρ)
def dNotV (f : Env' → M Val) : Env' → M Val := fun ρ => M.bind (f ρ) fun a => M.bind (isBl a) fun k => M.pure (.d (.bl (!k)))
section
variable {X : Cx} {W : WX} {pos : Pos} {a b c : Expr} {rest : List Expr} {f g : Env' → M Bool} {fa fb : Env' → M Val}
theorem dw_and1 (h : DT X W a f) : DW X W (.BoolOp .And [a] pos) f := pw_and1 h
theorem dw_or1 (h : DT X W a f) : DW X W (.BoolOp .Or [a] pos) f := pw_or1 h
theorem dw_and (h : DT X W a f) (k : DW X W (.BoolOp .And (b :: rest) pos) g) : DW X W (.BoolOp .And (a :: b :: rest) pos) (dAndT f g) := pw_imp (pw_and h k) fun σ H Q h => by
  obtain ⟨κ, ρ, S, s, p⟩ := h
  obtain ⟨k1, r1, s1, sm, q⟩ := Ev.bind (rel1 := relEq) s p
  refine ⟨k1, r1, s1, sm, q.mono ?_⟩
  rintro x H1 ⟨κ1, S1, a, g1, sm1, rfl, p1⟩
  cases a with
  | true => rw [if_pos rfl]; exact ⟨κ1, ρ, S1, sm1, p1⟩
  | false => rw [if_neg Bool.false_ne_true]; exact PostG.ok (a := false) (b := false) p1 sm1.cells rfl
theorem dw_or (h : DT X W a f) (k : DW X W (.BoolOp .Or (b :: rest) pos) g) : DW X W (.BoolOp .Or (a :: b :: rest) pos) (dOrT f g) := pw_imp (pw_or h k) fun σ H Q h => by
  obtain ⟨κ, ρ, S, s, p⟩ := h
  obtain ⟨k1, r1, s1, sm, q⟩ := Ev.bind (rel1 := relEq) s p
  refine ⟨k1, r1, s1, sm, q.mono ?_⟩
  rintro x H1 ⟨κ1, S1, a, g1, sm1, rfl, p1⟩
  cases a with
  | false => rw [if_neg Bool.false_ne_true]; exact ⟨κ1, ρ, S1, sm1, p1⟩
  | true => rw [if_pos rfl]; exact PostG.ok (a := true) (b := true) p1 sm1.cells rfl
theorem dt_not (h : DT X W a f) : DT X W (.UnaryOp .Not a pos) (dNotT f) := pt_imp (pt_not h) fun σ H Q h => by
  obtain ⟨κ, ρ, S, s, p⟩ := h
  obtain ⟨k1, r1, s1, sm, q⟩ := Ev.bind (rel1 := relEq) s p
  refine ⟨k1, r1, s1, sm, q.mono ?_⟩
  rintro x H1 ⟨κ1, S1, a, g1, sm1, rfl, p1⟩
  exact PostG.ok (a := !a) (b := !a) p1 sm1.cells rfl
theorem de_one {op} (h : DE X W a fa) : DE X W (.BoolOp op [a] pos) fa := pe_one h
theorem de_and (h : DE X W a fa) (k : DE X W (.BoolOp .And (b :: rest) pos) fb) : DE X W (.BoolOp .And (a :: b :: rest) pos) (dAndV fa fb) := pe_imp (pe_and h k) fun σ H Q h => by
  obtain ⟨κ, ρ, S, s, p⟩ := h
  obtain ⟨k1, r1, s1, sm, q⟩ := Ev.bind (rel1 := relV (cx X)) s p
  refine ⟨k1, r1, s1, sm, q.mono ?_⟩
  rintro x H1 ⟨κ1, S1, a, g1, sm1, rx, p1⟩
  obtain ⟨k, ek, p2⟩ := isBl_bind rx p1
  refine ⟨k, ek, ?_⟩
  cases k with
  | true => rw [if_pos rfl]; exact ⟨κ1, ρ, S1, sm1, p2⟩
  | false => rw [if_neg Bool.false_ne_true]; exact PostG.ok (a := Val.d (.bl false)) p2 sm1.cells RepV.bl
theorem de_or (h : DE X W a fa) (k : DE X W (.BoolOp .Or (b :: rest) pos) fb) : DE X W (.BoolOp .Or (a :: b :: rest) pos) (dOrV fa fb) := pe_imp (pe_or h k) fun σ H Q h => by
  obtain ⟨κ, ρ, S, s, p⟩ := h
  obtain ⟨k1, r1, s1, sm, q⟩ := Ev.bind (rel1 := relV (cx X)) s p
  refine ⟨k1, r1, s1, sm, q.mono ?_⟩
  rintro x H1 ⟨κ1, S1, a, g1, sm1, rx, p1⟩
  obtain ⟨k, ek, p2⟩ := isBl_bind rx p1
  refine ⟨k, ek, ?_⟩
  cases k with
  | false => rw [if_neg Bool.false_ne_true]; exact ⟨κ1, ρ, S1, sm1, p2⟩
  | true => rw [if_pos rfl]; exact PostG.ok (a := Val.d (.bl true)) p2 sm1.cells RepV.bl
theorem de_not (h : DE X W a fa) : DE X W (.UnaryOp .Not a pos) (dNotV fa) := pe_imp (pe_not h) fun σ H Q h => by
  obtain ⟨κ, ρ, S, s, p⟩ := h
  obtain ⟨k1, r1, s1, sm, q⟩ := Ev.bind (rel1 := relV (cx X)) s p
  refine ⟨k1, r1, s1, sm, q.mono ?_⟩
  rintro x H1 ⟨κ1, S1, a, g1, sm1, rx, p1⟩
  obtain ⟨k, ek, p2⟩ := isBl_bind rx p1
  exact ⟨k, ek, PostG.ok (a := Val.d (.bl (!k))) (b := V.bl (!k)) p2 sm1.cells RepV.bl⟩
theorem de_ifExp (hc : DT X W c f) (ha : DE X W a fa) (hb : DE X W b fb) : DE X W (.IfExp c a b pos) (dIf f fa fb) := pe_imp (pe_ifExp hc ha hb) fun σ H Q h => by
  obtain ⟨κ, ρ, S, s, p⟩ := h
  obtain ⟨k1, r1, s1, sm, q⟩ := Ev.bind (rel1 := relEq) s p
  refine ⟨k1, r1, s1, sm, q.mono ?_⟩
  rintro x H1 ⟨κ1, S1, k, g1, sm1, rfl, p2⟩
  cases k with
  | false => rw [if_neg Bool.false_ne_true]; exact ⟨κ1, ρ, S1, sm1, p2⟩
  | true => rw [if_pos rfl]; exact ⟨κ1, ρ, S1, sm1, p2⟩
end
end Dn

/-! Dn2: new lists, statements, blocks, while, for, comprehensions, calls, defs. -/
namespace Dn
open PySem PySem.Spec PyProof.Rows L2

/-! ### a new list, which nothing else knows -/
def PostN (C : Ctx) (κ : Ks) (H : Hp) (o : Out (List D)) (Q : V → Hp → Prop) (E : XK) : Prop := match o with
  | .ok xs S' => ∀ p vs κ' H', Grow κ H κ' H' → H p = none → p ∉ κ'.more → H' p = some (.lst vs) → Cells C (κ'.ex p) H' S' → RepL C (κ'.ex p) H' xs vs → Q (.ref p) H'
  | .exc e S' => ∀ cls dd κ' H', Grow κ H κ' H' → Cells C κ' H' S' → ExcRep C κ' H' e cls dd → E cls dd H'
  | .bad => False
def EvN (C : Ctx) (W : WX) (f : Env' → M (List D)) : TE := fun σ H Q => ∃ κ ρ S, Sim C κ H σ ρ S ∧ PostN C κ H (f ρ S) Q (fun c d H' => W c d σ H')
abbrev DN (X : Cx) (W : WX) (e : Expr) (f : Env' → M (List D)) : Prop := PE X e (EvN (cx X) W f)
theorem PostN.grow {C : Ctx} {κ κ' : Ks} {H H' : Hp} {o : Out (List D)} {Q : V → Hp → Prop} {E : XK} (g : Grow κ H κ' H') (h : PostN C κ H o Q E) : PostN C κ' H' o Q E := by
  cases o with
  | ok a S => exact fun p vs k2 H2 g2 n m l c r => h p vs k2 H2 (g.trans g2) (g.fresh n) m l c r
  | exc e S => exact fun cl dd k2 H2 g2 c r => h cl dd k2 H2 (g.trans g2) c r
  | bad => exact h
theorem PostN.bind {γ δ : Type} {C : Ctx} {rel1 : Ks → Hp → γ → δ → Prop} {κ : Ks} {H : Hp} {o : Out γ} {f : γ → M (List D)} {Q : V → Hp → Prop} {E : XK} (h : PostN C κ H (o.bind f) Q E) :
    PostG C rel1 κ H o (fun b H1 => ∃ κ1 S1 a, Grow κ H κ1 H1 ∧ Cells C κ1 H1 S1 ∧ rel1 κ1 H1 a b ∧ PostN C κ1 H1 (f a S1) Q E) E := by
  cases o with
  | ok a S => exact fun b κ1 H1 g c r => ⟨κ1, S, a, g, c, r, PostN.grow g h⟩
  | exc e S => exact h
  | bad => exact h
theorem EvN.bind {γ δ : Type} {C : Ctx} {W : WX} {rel1 : Ks → Hp → γ → δ → Prop} {κ : Ks} {H : Hp} {σ : L2.St} {ρ : Env'} {S : Store} {f : Env' → M γ} {k : γ → M (List D)} {Q : V → Hp → Prop} (s : Sim C κ H σ ρ S) (h : PostN C κ H ((f ρ S).bind k) Q (fun c d H' => W c d σ H')) :
    Ev C rel1 W f σ H (fun b H1 => ∃ κ1 S1 a, Grow κ H κ1 H1 ∧ Sim C κ1 H1 σ ρ S1 ∧ rel1 κ1 H1 a b ∧ PostN C κ1 H1 (k a S1) Q (fun c d H' => W c d σ H')) := by
  refine ⟨κ, ρ, S, s, (PostN.bind (rel1 := rel1) h).mono ?_⟩
  rintro b H1 ⟨κ1, S1, a, g, c, r, p⟩
  exact ⟨κ1, S1, a, g, s.grow g c, r, p⟩
/-- the new list as data -/
def dN (f : Env' → M (List D)) : Env' → M Val := fun ρ => M.bind (f ρ) fun xs => M.pure (.d (.lst xs))
theorem ev_N {C : Ctx} {W : WX} {f : Env' → M (List D)} {σ : L2.St} {H : Hp} {Q : VK} (h : Ev C (relV C) W (dN f) σ H Q) : EvN C W f σ H Q := by
  obtain ⟨κ, ρ, S, s, p⟩ := h
  refine ⟨κ, ρ, S, s, ?_⟩
  unfold dN M.bind at p
  cases q : f ρ S with
  | ok xs S' =>
    rw [q] at p
    intro a vs κ' H' g n m l c r
    refine p (.ref a) κ' H' g c.unex ?_
    show Rep C κ' H' (.lst xs) (.ref a)
    unfold Rep
    exact ⟨a, vs, rfl, l, ⟨(c.occ a List.mem_cons_self).1, m⟩, r.less (κ'.ex_less a)⟩
  | exc e S' => rw [q] at p; exact p
  | bad => rw [q] at p; exact p
theorem de_N {X : Cx} {W : WX} {e : Expr} {f : Env' → M (List D)} (h : DN X W e f) : DE X W e (dN f) := pe_imp h fun _ _ _ => ev_N
/-- the end of a producer: the list is laid last -/
theorem postN_laid {C : Ctx} {κ κ1 : Ks} {H H1 : Hp} {S1 : Store} {xs : List D} {vs : List V} {Q : V → Hp → Prop} {E : XK} {p : Addr} (g : Grow κ H κ1 H1) (c : Cells C κ1 H1 S1) (r : RepL C κ1 H1 xs vs) (hp : H1 p = none)
    (h : PostN C κ H (.ok xs S1) Q E) : Q (.ref p) (upd H1 p (.lst vs)) :=
  h p vs κ1 _ (g.trans (.laid hp)) (g.fresh hp) (c.out hp).2 upd_same (c.lay_ex hp) ((r.ex hp).grow (.laid hp))
def mkN (vs : List Val) : M (List D) := fun S => match toDs vs with
  | some xs => if xs.length ≤ 1000000 then .ok xs S else .bad
  | none => .bad
def nLst (g : Env' → M (List Val)) : Env' → M (List D) := fun ρ => M.bind (g ρ) mkN
theorem dn_lst {X : Cx} {W : WX} {pos : Pos} {es : List Expr} {g : Env' → M (List Val)} (h : DA X W es g) : DN X W (.List es pos) (nLst g) := pe_imp (pe_lst h) fun σ H Q h => by
  obtain ⟨κ, ρ, S, s, p⟩ := h
  obtain ⟨k1, r1, s1, sm, q⟩ := EvN.bind (rel1 := relVs (cx X)) s p
  refine ⟨k1, r1, s1, sm, q.mono ?_⟩
  rintro vs H1 ⟨κ1, S1, a, g1, sm1, rx, p1⟩
  unfold mkN at p1
  split at p1
  · rename_i xs e
    split at p1
    · rename_i hz
      have r := toDs_rep e rx
      exact ⟨mil_line (by rw [r.length]; exact hz), fun p hp => postN_laid (.refl _ _) sm1.cells r hp p1⟩
    · exact p1.elim
  · exact p1.elim

/-! ### statements -/
inductive SOut where
  | next (ρ : Env') (S : Store)
  | ret (v : Val) (S : Store)
  | brk (ρ : Env') (S : Store)
  | cont (ρ : Env') (S : Store)
  | exc (e : Exc) (ρ : Env') (S : Store)
  | bad
abbrev SD := Env' → Store → SOut
def PostS (C : Ctx) (κ : Ks) (H : Hp) (o : SOut) (D : Ends) (W : WX) : Prop := match o with
  | .next ρ' S' => ∀ σ' κ' H', Grow κ H κ' H' → Sim C κ' H' σ' ρ' S' → D.nx σ' H'
  | .ret v S' => ∀ u κ' H', Grow κ H κ' H' → Cells C κ' H' S' → RepV C κ' H' v u → D.rt u H'
  | .brk ρ' S' => ∀ σ' κ' H', Grow κ H κ' H' → Sim C κ' H' σ' ρ' S' → D.bk σ' H'
  | .cont ρ' S' => ∀ σ' κ' H', Grow κ H κ' H' → Sim C κ' H' σ' ρ' S' → D.ct σ' H'
  | .exc e ρ' S' => ∀ cls dd σ' κ' H', Grow κ H κ' H' → Sim C κ' H' σ' ρ' S' → ExcRep C κ' H' e cls dd → W cls dd σ' H'
  | .bad => False
def EvS (C : Ctx) (W : WX) (f : SD) : TS := fun D σ H => ∃ κ ρ S, Sim C κ H σ ρ S ∧ PostS C κ H (f ρ S) D W
abbrev DS (X : Cx) (W : WX) (st : Stmt) (f : SD) : Prop := PS X st (EvS (cx X) W f)
abbrev DSs (X : Cx) (W : WX) (st : List Stmt) (f : SD) : Prop := PSs X st (EvS (cx X) W f)
theorem PostS.grow {C : Ctx} {κ κ' : Ks} {H H' : Hp} {o : SOut} {D : Ends} {W : WX} (g : Grow κ H κ' H') (h : PostS C κ H o D W) : PostS C κ' H' o D W := by
  cases o with
  | next ρ S => exact fun σ k2 H2 g2 s => h σ k2 H2 (g.trans g2) s
  | ret v S => exact fun u k2 H2 g2 c r => h u k2 H2 (g.trans g2) c r
  | brk ρ S => exact fun σ k2 H2 g2 s => h σ k2 H2 (g.trans g2) s
  | cont ρ S => exact fun σ k2 H2 g2 s => h σ k2 H2 (g.trans g2) s
  | exc e ρ S => exact fun cl dd σ k2 H2 g2 s r => h cl dd σ k2 H2 (g.trans g2) s r
  | bad => exact h
def SOut.seq (o : SOut) (g : SD) : SOut := match o with
  | .next ρ S => g ρ S
  | .ret v S => .ret v S
  | .brk ρ S => .brk ρ S
  | .cont ρ S => .cont ρ S
  | .exc e ρ S => .exc e ρ S
  | .bad => .bad
def sNext : SD := fun ρ S => .next ρ S
def sSeq (f g : SD) : SD := fun ρ S => (f ρ S).seq g
/-- from an expression's outcome -/
def Out.st {α : Type} (o : Out α) (ρ : Env') (k : α → SD) : SOut := match o with
  | .ok a S => k a ρ S
  | .exc e S => .exc e ρ S
  | .bad => .bad
def sExpr (f : Env' → M Val) : SD := fun ρ S => (f ρ S).st ρ fun _ => sNext
def sRet (f : Env' → M Val) : SD := fun ρ S => (f ρ S).st ρ fun v _ S' => .ret v S'
def sRetN : SD := fun _ S => .ret (.d .non) S
def sIf (c : Env' → M Bool) (f g : SD) : SD := fun ρ S => (c ρ S).st ρ fun b ρ' S' => if b = true then f ρ' S' else g ρ' S'
def sSet (i : Nat) (f : Env' → M Val) : SD := fun ρ S => (f ρ S).st ρ fun v ρ' S' => .next (ρ'.set i (some v)) S'
/-- name = a new list, a cell from now on -/
def sSetC (i : Nat) (f : Env' → M (List D)) : SD := fun ρ S => (f ρ S).st ρ fun xs ρ' S' => .next (ρ'.set i (some (.cell S'.length))) (S' ++ [.lst xs])
def sBrk : SD := fun ρ S => .brk ρ S
def sCont : SD := fun ρ S => .cont ρ S
def sBad : SD := fun _ _ => .bad

theorem Sim.set {C : Ctx} {κ : Ks} {H : Hp} {σ : L2.St} {ρ : Env'} {S : Store} {i : Nat} {x : Val} {v : V} (s : Sim C κ H σ ρ S) (hi : i < σ.length) (r : RepV C κ H x v) : Sim C κ H (σ.set i (some v)) (ρ.set i (some x)) S :=
  ⟨s.cells, by rw [List.length_set, List.length_set, s.len], fun j y e => by
    by_cases hj : i = j
    · subst hj
      rw [List.getElem?_set_self (by rw [← s.len]; exact hi)] at e
      cases e
      exact ⟨v, List.getElem?_set_self hi, r⟩
    · rw [List.getElem?_set_ne hj] at e
      obtain ⟨u, q, r'⟩ := s.env j y e
      exact ⟨u, by rw [List.getElem?_set_ne hj]; exact q, r'⟩⟩
section
variable {X : Cx} {W : WX} {pos : Pos} {st : Stmt} {rest : List Stmt} {f g : SD} {e : Expr} {fe : Env' → M Val}
/-- an expression ahead of the rest of a statement -/
theorem evS_bind {α β : Type} {C : Ctx} {rel : Ks → Hp → α → β → Prop} {κ : Ks} {H : Hp} {σ : L2.St} {ρ : Env'} {S : Store} {fe : Env' → M α} {k : α → SD} {D : Ends} (s : Sim C κ H σ ρ S) (h : PostS C κ H ((fe ρ S).st ρ k) D W) :
    Ev C rel W fe σ H (fun b H1 => ∃ κ1 S1 a, Grow κ H κ1 H1 ∧ Sim C κ1 H1 σ ρ S1 ∧ rel κ1 H1 a b ∧ PostS C κ1 H1 (k a ρ S1) D W) := by
  refine ⟨κ, ρ, S, s, ?_⟩
  cases q : fe ρ S with
  | ok a S' => rw [q] at h; exact fun b κ1 H1 g c r => ⟨κ1, S', a, g, s.grow g c, r, PostS.grow g h⟩
  | exc e S' => rw [q] at h; exact fun cl dd κ1 H1 g c r => h cl dd σ κ1 H1 g (s.grow g c) r
  | bad => rw [q] at h; exact h
theorem dss_nil : DSs X W [] sNext := pss_imp pss_nil fun D σ H h => by
  obtain ⟨κ, ρ, S, s, p⟩ := h
  exact p σ κ H (.refl _ _) s
theorem dss_cons (h1 : DS X W st f) (h2 : DSs X W rest g) : DSs X W (st :: rest) (sSeq f g) := pss_imp (pss_cons h1 h2) fun D σ H h => by
  obtain ⟨κ, ρ, S, s, p⟩ := h
  refine ⟨κ, ρ, S, s, ?_⟩
  unfold sSeq at p
  cases q : f ρ S with
  | next ρ' S' => rw [q] at p; exact fun σ' κ' H' g' s' => ⟨κ', ρ', S', s', PostS.grow g' p⟩
  | ret v S' => rw [q] at p; exact p
  | brk ρ' S' => rw [q] at p; exact p
  | cont ρ' S' => rw [q] at p; exact p
  | exc e ρ' S' => rw [q] at p; exact p
  | bad => rw [q] at p; exact p
theorem dss_one (h : DS X W st f) : DSs X W [st] f := pss_one h
theorem ds_pass : DS X W (.Pass pos) sNext := ps_imp ps_pass fun D σ H h => by
  obtain ⟨κ, ρ, S, s, p⟩ := h
  exact p σ κ H (.refl _ _) s
theorem ds_doc {x j pos'} : DS X W (.Expr (.Constant (.str x) j pos) pos') sNext := ps_imp ps_doc fun D σ H h => by
  obtain ⟨κ, ρ, S, s, p⟩ := h
  exact p σ κ H (.refl _ _) s
theorem ds_break : DS X W (.Break pos) sBrk := ps_imp ps_break fun D σ H h => by
  obtain ⟨κ, ρ, S, s, p⟩ := h
  exact p σ κ H (.refl _ _) s
theorem ds_continue : DS X W (.Continue pos) sCont := ps_imp ps_continue fun D σ H h => by
  obtain ⟨κ, ρ, S, s, p⟩ := h
  exact p σ κ H (.refl _ _) s
theorem ds_bad : DS X W st sBad := ps_imp ps_never fun D σ H h => by
  obtain ⟨κ, ρ, S, s, p⟩ := h
  exact p
theorem ds_expr (he : DE X W e fe) (hs : swapsWith e none pos.line X.env = pure false := by rfl) : DS X W (.Expr e pos) (sExpr fe) := ps_imp (ps_expr he hs) fun D σ H h => by
  obtain ⟨κ, ρ, S, s, p⟩ := h
  obtain ⟨k1, r1, s1, sm, q⟩ := evS_bind (rel := relV (cx X)) s p
  refine ⟨k1, r1, s1, sm, q.mono ?_⟩
  rintro b H1 ⟨κ1, S1, a, g1, sm1, r, p1⟩
  exact p1 σ κ1 H1 (.refl _ _) sm1
theorem ds_ret (he : DE X W e fe) : DS X W (.Return (some e) pos) (sRet fe) := ps_imp (ps_ret he) fun D σ H h => by
  obtain ⟨κ, ρ, S, s, p⟩ := h
  obtain ⟨k1, r1, s1, sm, q⟩ := evS_bind (rel := relV (cx X)) s p
  refine ⟨k1, r1, s1, sm, q.mono ?_⟩
  rintro b H1 ⟨κ1, S1, a, g1, sm1, r, p1⟩
  exact p1 b κ1 H1 (.refl _ _) sm1.cells r
theorem ds_retN : DS X W (.Return none pos) sRetN := ps_imp ps_retN fun D σ H h => by
  obtain ⟨κ, ρ, S, s, p⟩ := h
  exact p .non κ H (.refl _ _) s.cells (by show Rep (cx X) κ H .non .non; unfold Rep; rfl)
theorem ds_if {c : Expr} {a b : List Stmt} {fc : Env' → M Bool} (hc : DT X W c fc) (ha : DSs X W a f) (hb : DSs X W b g) : DS X W (.If c a b pos) (sIf fc f g) := ps_imp (ps_if hc ha hb) fun D σ H h => by
  obtain ⟨κ, ρ, S, s, p⟩ := h
  obtain ⟨k1, r1, s1, sm, q⟩ := evS_bind (rel := relEq) s p
  refine ⟨k1, r1, s1, sm, q.mono ?_⟩
  rintro b H1 ⟨κ1, S1, a, g1, sm1, rfl, p1⟩
  cases a with
  | true => rw [if_pos rfl] at p1 ⊢; exact ⟨κ1, ρ, S1, sm1, p1⟩
  | false => rw [if_neg Bool.false_ne_true] at p1 ⊢; exact ⟨κ1, ρ, S1, sm1, p1⟩
/-- slots: the length of the names -/
theorem inv_len {pins : List (Addr × Obj)} {σ : L2.St} {H : Hp} {s : Shared} {i : Nat} {x : Str} (I : Inv X pins σ H s) (hi : X.N[i]? = some x) : i < σ.length := by
  rw [I.len]; exact (List.getElem?_eq_some_iff.mp hi).1
/-- name = value, whatever the form that stores it -/
theorem ds_asg {i : Nat} {x : Str} {te : TE} (hi : X.N[i]? = some x) (h : PS X st (tAsg te (gName i))) (he : ∀ σ H Q, Ev (cx X) (relV (cx X)) W fe σ H Q → te σ H Q) : DS X W st (sSet i fe) := by
  refine ⟨fun pins s0 σ H D I h1 => ?_⟩
  refine h.run pins s0 σ H D I ?_
  obtain ⟨κ, ρ, S, s, p⟩ := h1
  refine he σ H _ ?_
  obtain ⟨k1, r1, s1, sm, q⟩ := evS_bind (rel := relV (cx X)) s p
  refine ⟨k1, r1, s1, sm, q.mono ?_⟩
  rintro b H1 ⟨κ1, S1, a, g1, sm1, r, p1⟩
  exact p1 _ κ1 H1 (.refl _ _) (sm1.set (inv_len I hi) r)
theorem ds_asgC {i : Nat} {x : Str} {te : TE} {fn : Env' → M (List D)} (hi : X.N[i]? = some x) (h : PS X st (tAsg te (gName i))) (he : ∀ σ H Q, EvN (cx X) W fn σ H Q → te σ H Q) : DS X W st (sSetC i fn) := by
  refine ⟨fun pins s0 σ H D I h1 => ?_⟩
  refine h.run pins s0 σ H D I ?_
  obtain ⟨κ, ρ, S, s, p⟩ := h1
  refine he σ H _ ⟨κ, ρ, S, s, ?_⟩
  unfold sSetC at p
  cases q : fn ρ S with
  | ok xs S' =>
    rw [q] at p
    intro a vs κ' H' g n m l c r
    have c2 := c.push (x := .lst xs) m ⟨vs, l, r⟩
    have g2 : Grow κ H (κ'.push a) H' := by
      refine ⟨?_, g.more, g.held, g.keep, fun b m' n' => ?_, g.there, g.tups, g.frzs⟩
      · obtain ⟨l', e⟩ := g.pre
        exact ⟨l' ++ [a], by show κ'.cells ++ [a] = _; rw [e, List.append_assoc]⟩
      · rcases List.mem_append.mp m' with z | z
        · exact g.new b z n'
        · rw [List.mem_singleton.mp z]; exact n
    refine p _ (κ'.push a) H' g2 ?_
    refine (s.grow g2 c2).set (inv_len I hi) ⟨a, ?_, rfl⟩
    show (κ'.cells ++ [a])[S'.length]? = some a
    rw [List.getElem?_append_right (by rw [← c.len]; exact Nat.le_refl _), ← c.len]
    show [a][κ'.cells.length - κ'.cells.length]? = some a
    rw [Nat.sub_self]
    rfl
  | exc e S' => rw [q] at p; exact fun cl dd κ1 H1 g c r => p cl dd σ κ1 H1 g (s.grow g c) r
  | bad => rw [q] at p; exact p
theorem ds_set (i : Nat) {x : Str} {pos' : Pos} (hN : X.N.Nodup) (he : DE X W e fe) (hi : X.N[i]? = some x := by rfl) (hx : Loc X.env.scope x := by first | exact Or.inl rfl | exact Or.inr rfl) (hs : swapsWith e (some (.Name x pos')) pos.line X.env = pure false := by rfl)
    (hf : X.fn x = true ∨ X.env.scope.names.lookup x = some .local := by first | exact .inl rfl | exact .inr rfl) : DS X W (.Assign [.Name x pos'] e pos) (sSet i fe) :=
  ds_asg hi (ps_set hN hi hx he hs hf) fun _ _ _ h => h
theorem ds_setC (i : Nat) {x : Str} {pos' : Pos} {fn : Env' → M (List D)} (hN : X.N.Nodup) (he : DN X W e fn) (hi : X.N[i]? = some x := by rfl) (hx : Loc X.env.scope x := by first | exact Or.inl rfl | exact Or.inr rfl) (hs : swapsWith e (some (.Name x pos')) pos.line X.env = pure false := by rfl)
    (hf : X.fn x = true ∨ X.env.scope.names.lookup x = some .local := by first | exact .inl rfl | exact .inr rfl) : DS X W (.Assign [.Name x pos'] e pos) (sSetC i fn) :=
  ds_asgC hi (ps_set hN hi hx he hs hf) fun _ _ _ h => h
end

/-! ### while -/
/-- behind a body -/
def SOut.loop (o : SOut) (k : SD) : SOut := match o with
  | .next ρ S => k ρ S
  | .cont ρ S => k ρ S
  | .brk ρ S => .next ρ S
  | .ret v S => .ret v S
  | .exc e ρ S => .exc e ρ S
  | .bad => .bad
theorem PostS.loop {C : Ctx} {κ : Ks} {H : Hp} {o : SOut} {k : SD} {D : Ends} {W : WX} {N : L2.St → Hp → Prop} (h : PostS C κ H (o.loop k) D W)
    (hN : ∀ σ' κ' H' ρ S, Grow κ H κ' H' → Sim C κ' H' σ' ρ S → PostS C κ' H' (k ρ S) D W → N σ' H') : PostS C κ H o { D with nx := N, ct := N, bk := D.nx } W := by
  cases o with
  | next ρ S => exact fun σ' κ' H' g s => hN σ' κ' H' ρ S g s (PostS.grow g h)
  | cont ρ S => exact fun σ' κ' H' g s => hN σ' κ' H' ρ S g s (PostS.grow g h)
  | brk ρ S => exact h
  | ret v S => exact h
  | exc e ρ S => exact h
  | bad => exact h
def whileN (c : Env' → M Bool) (b : SD) : Nat → SD
  | 0 => sBad
  | n + 1 => fun ρ S => (c ρ S).st ρ fun k ρ' S' => if k = true then (b ρ' S').loop (whileN c b n) else .next ρ' S'
theorem whileN_succ (c : Env' → M Bool) (b : SD) (n : Nat) (ρ : Env') (S : Store) : whileN c b (n + 1) ρ S = (c ρ S).st ρ fun k ρ' S' => if k = true then (b ρ' S').loop (whileN c b n) else .next ρ' S' := rfl
theorem ds_while {X : Cx} {W : WX} {pos : Pos} {c : Expr} {body : List Stmt} {fc : Env' → M Bool} {fb : SD} (n : Nat) (hp : PassesOwn (model X.prog X.w) X.A X.env X.xe) (hc : DT X W c fc) (hb : DSs X W body fb) : DS X W (.While c body [] pos) (whileN fc fb n) :=
  ps_imp (ps_while hp hc hb) fun D σ H h => by
  refine ⟨fun m σ H => ∃ κ ρ S, Sim (cx X) κ H σ ρ S ∧ PostS (cx X) κ H (whileN fc fb m ρ S) D W, ⟨n, h⟩, ?_⟩
  rintro m σ H ⟨κ, ρ, S, s, p⟩
  cases m with
  | zero => exact p.elim
  | succ m =>
    rw [whileN_succ] at p
    obtain ⟨k1, r1, s1, sm, q⟩ := evS_bind (rel := relEq) s p
    refine ⟨k1, r1, s1, sm, q.mono ?_⟩
    rintro b H1 ⟨κ1, S1, a, g1, sm1, rfl, p1⟩
    cases a with
    | false => rw [if_neg Bool.false_ne_true] at p1 ⊢; exact p1 σ κ1 H1 (.refl _ _) sm1
    | true =>
      rw [if_pos rfl] at p1 ⊢
      refine ⟨fun σ' H' => ∃ κ ρ S, Sim (cx X) κ H' σ' ρ S ∧ PostS (cx X) κ H' (whileN fc fb m ρ S) D W, fun σ' H' w' => ⟨m, Nat.lt_succ_self m, w'⟩, κ1, ρ, S1, sm1, ?_⟩
      exact p1.loop fun σ' κ' H' ρ' S' _ s' p' => ⟨κ', ρ', S', s', p'⟩

/-! ### what is walked -/
/-- the items; the cells whose lists they come from, which must not change meanwhile -/
structure Walk where
  items : List D
  guard : List (Nat × List D)
def Walk.live (w : Walk) (S : Store) : Prop := ∀ p ∈ w.guard, S[p.1]? = some (.lst p.2)
structure WalkD (C : Ctx) (κ : Ks) (H : Hp) (J : It) (w : Walk) : Prop where
  go : ∀ i κ2 H2 S2, i < w.items.length → Grow κ H κ2 H2 → Cells C κ2 H2 S2 → w.live S2 → J.go i H2
  yld : ∀ (i : Nat) κ2 H2 S2 x H3 d, w.items[i]? = some d → Grow κ H κ2 H2 → Cells C κ2 H2 S2 → w.live S2 → J.yld i H2 x H3 → Grow κ2 H2 κ2 H3 ∧ Cells C κ2 H3 S2 ∧ Rep C κ2 H3 d x
  stop : ∀ κ2 H2 S2, Grow κ H κ2 H2 → Cells C κ2 H2 S2 → w.live S2 → J.stop w.items.length H2
def PostI (C : Ctx) (κ : Ks) (H : Hp) (o : Out Walk) (R : It → Hp → Prop) (E : XK) : Prop := match o with
  | .ok w S' => ∀ J κ' H', Grow κ H κ' H' → Cells C κ' H' S' → WalkD C κ' H' J w → R J H'
  | .exc e S' => ∀ cls dd κ' H', Grow κ H κ' H' → Cells C κ' H' S' → ExcRep C κ' H' e cls dd → E cls dd H'
  | .bad => False
def EvI (C : Ctx) (W : WX) (f : Env' → M Walk) : TI := fun σ H R => ∃ κ ρ S, Sim C κ H σ ρ S ∧ PostI C κ H (f ρ S) R (fun c d H' => W c d σ H')
abbrev DI (X : Cx) (W : WX) (tg iter : Expr) (f : Env' → M Walk) : Prop := PI X tg iter (EvI (cx X) W f)
theorem pi_imp {X : Cx} {tg iter : Expr} {t t' : TI} (h : PI X tg iter t) (i : ∀ σ H R, t' σ H R → t σ H R) : PI X tg iter t' := ⟨fun pins s σ H R I q => h.run pins s σ H R I (i σ H R q)⟩
theorem PostI.grow {C : Ctx} {κ κ' : Ks} {H H' : Hp} {o : Out Walk} {R : It → Hp → Prop} {E : XK} (g : Grow κ H κ' H') (h : PostI C κ H o R E) : PostI C κ' H' o R E := by
  cases o with
  | ok a S => exact fun J k2 H2 g2 c r => h J k2 H2 (g.trans g2) c r
  | exc e S => exact fun cl dd k2 H2 g2 c r => h cl dd k2 H2 (g.trans g2) c r
  | bad => exact h
theorem EvI.bind {γ δ : Type} {C : Ctx} {W : WX} {rel1 : Ks → Hp → γ → δ → Prop} {κ : Ks} {H : Hp} {σ : L2.St} {ρ : Env'} {S : Store} {f : Env' → M γ} {k : γ → M Walk} {R : It → Hp → Prop} (s : Sim C κ H σ ρ S) (h : PostI C κ H ((f ρ S).bind k) R (fun c d H' => W c d σ H')) :
    Ev C rel1 W f σ H (fun b H1 => ∃ κ1 S1 a, Grow κ H κ1 H1 ∧ Sim C κ1 H1 σ ρ S1 ∧ rel1 κ1 H1 a b ∧ PostI C κ1 H1 (k a S1) R (fun c d H' => W c d σ H')) := by
  refine ⟨κ, ρ, S, s, ?_⟩
  cases q : f ρ S with
  | ok a S' => rw [q] at h; exact fun b κ1 H1 g c r => ⟨κ1, S', a, g, s.grow g c, r, PostI.grow g h⟩
  | exc e S' => rw [q] at h; exact h
  | bad => rw [q] at h; exact h

/-! ### targets -/
/-- a target: where the data go -/
abbrev TB := D → Env' → Option Env'
def bName (i : Nat) : TB := fun d ρ => if i < ρ.length then some (ρ.set i (some (.d d))) else none
/-- σ' is σ but at the slots vs -/
def OnlyAt (vs : List Nat) (σ σ' : L2.St) : Prop := σ'.length = σ.length ∧ ∀ j, j ∉ vs → σ'[j]? = σ[j]?
theorem OnlyAt.refl (vs : List Nat) (σ : L2.St) : OnlyAt vs σ σ := ⟨rfl, fun _ _ => rfl⟩
theorem OnlyAt.trans {vs : List Nat} {σ σ1 σ2 : L2.St} (h : OnlyAt vs σ σ1) (k : OnlyAt vs σ1 σ2) : OnlyAt vs σ σ2 := ⟨k.1.trans h.1, fun j n => (k.2 j n).trans (h.2 j n)⟩
theorem wipe_get (σ : L2.St) : ∀ (vs : List Nat) (j : Nat), (wipe σ vs)[j]? = if j ∈ vs then (σ[j]?).map (fun _ => none) else σ[j]?
  | [], j => by simp [wipe]
  | v :: vs, j => by
    unfold wipe
    by_cases h : v = j
    · subst h
      rw [if_pos List.mem_cons_self]
      by_cases hv : v < (wipe σ vs).length
      · rw [List.getElem?_set_self hv]
        rw [wipe_length] at hv
        rw [List.getElem?_eq_getElem hv]; rfl
      · rw [List.getElem?_eq_none (by rw [List.length_set]; omega)]
        rw [wipe_length] at hv
        rw [List.getElem?_eq_none (by omega)]; rfl
    · rw [List.getElem?_set_ne h, wipe_get σ vs j]
      have : (j ∈ v :: vs) ↔ j ∈ vs := ⟨fun m => (List.mem_cons.mp m).elim (fun e => absurd e.symm h) id, List.mem_cons_of_mem _⟩
      by_cases m : j ∈ vs
      · rw [if_pos m, if_pos (this.mpr m)]
      · rw [if_neg m, if_neg fun z => m (this.mp z)]
theorem wipe_only {vs : List Nat} {σ σ' : L2.St} (h : OnlyAt vs σ σ') : wipe σ' vs = wipe σ vs := by
  apply List.ext_getElem?
  intro j
  rw [wipe_get, wipe_get]
  by_cases m : j ∈ vs
  · rw [if_pos m, if_pos m]
    by_cases hj : j < σ.length
    · rw [List.getElem?_eq_getElem hj, List.getElem?_eq_getElem (by rw [h.1]; exact hj)]; rfl
    · rw [List.getElem?_eq_none (show σ.length ≤ j by omega), List.getElem?_eq_none (show σ'.length ≤ j by rw [h.1]; omega)]
  · rw [if_neg m, if_neg m, h.2 j m]
/-- a target's reading; vs: its slots -/
structure DG (X : Cx) (tg : Expr) (vs : List Nat) (b : TB) (g : TG) : Prop where
  pg : PG X tg g
  go : ∀ κ H σ ρ S d v ρ' (Q : L2.St → Hp → Prop), Sim (cx X) κ H σ ρ S → Rep (cx X) κ H d v → b d ρ = some ρ' →
    (∀ σ', OnlyAt vs σ σ' → Sim (cx X) κ H σ' ρ' S → Q σ' H) → g v σ H Q
theorem dg_name {X : Cx} {pos : Pos} (i : Nat) {x : Str} (hN : X.N.Nodup) (hi : X.N[i]? = some x := by rfl) (hx : Loc X.env.scope x := by first | exact Or.inl rfl | exact Or.inr rfl) (hf : X.fn x = true ∨ X.env.scope.names.lookup x = some .local := by first | exact .inl rfl | exact .inr rfl) :
    DG X (.Name x pos) [i] (bName i) (gName i) := ⟨pg_name hN hi hx hf, fun κ H σ ρ S d v ρ' Q s r e h => by
  unfold bName at e
  split at e
  · rename_i hl
    cases e
    have hl' : i < σ.length := by rw [s.len]; exact hl
    refine h _ ⟨List.length_set, fun j n => ?_⟩ (s.set hl' r)
    rw [List.getElem?_set_ne (fun e => n (by rw [e]; exact List.mem_singleton.mpr rfl))]
  · cases e⟩

/-! ### for -/
open Classical in
noncomputable def forN (w : Walk) (b : TB) (body : SD) : List D → SD
  | [] => fun ρ S => if w.live S then .next ρ S else .bad
  | x :: xs => fun ρ S => if w.live S then (match b x ρ with
      | none => .bad
      | some ρ1 => (body ρ1 S).loop (forN w b body xs)) else .bad
noncomputable def sFor (f : Env' → M Walk) (b : TB) (body : SD) : SD := fun ρ S => (f ρ S).st ρ fun w ρ' S' => forN w b body w.items ρ' S'
theorem ds_for {X : Cx} {W : WX} {pos : Pos} {tg iter : Expr} {body : List Stmt} {fi : Env' → M Walk} {vs : List Nat} {b : TB} {g : TG} {fb : SD} (hp : PassesOwn (model X.prog X.w) X.A X.env X.xe) (hc : X.calm = true) (hi : DI X W tg iter fi) (hg : DG X tg vs b g) (hb : DSs X W body fb)
    (hs : ∀ x, foldedSetIterable iter X.env x = pure x := by intro _; rfl) : DS X W (.For tg iter body [] pos) (sFor fi b fb) :=
  ps_imp (ps_for hp hc hi hg.1 hb hs) fun D σ H h1 => by
  obtain ⟨κ, ρ, S, s, p⟩ := h1
  refine ⟨κ, ρ, S, s, ?_⟩
  unfold sFor at p
  cases q : fi ρ S with
  | bad => rw [q] at p; exact p
  | exc e S' => rw [q] at p; exact fun cl dd κ1 H1 g c r => p cl dd σ κ1 H1 g (s.grow g c) r
  | ok w S' =>
    rw [q] at p
    intro J κ1 H1 g1 c1 wd
    refine ⟨fun i m σ H => i + m = w.items.length ∧ ∃ κ2 ρ S, Grow κ1 H1 κ2 H ∧ Sim (cx X) κ2 H σ ρ S ∧ PostS (cx X) κ2 H (forN w b fb (w.items.drop i) ρ S) D W,
      ⟨w.items.length, by omega, κ1, ρ, S', .refl _ _, s.grow g1 c1, PostS.grow g1 p⟩, ?_⟩
    rintro i m σ2 H2 ⟨him, κ2, ρ2, S2, g2, s2, p2⟩
    by_cases hi' : i < w.items.length
    · rw [List.drop_eq_getElem_cons hi'] at p2
      unfold forN at p2
      split at p2
      · rename_i lv
        refine .inr ⟨wd.go i κ2 H2 S2 hi' g2 s2.cells lv, ?_⟩
        refine ⟨fun σ' H' => ∃ κ2 ρ S, Grow κ1 H1 κ2 H' ∧ Sim (cx X) κ2 H' σ' ρ S ∧ PostS (cx X) κ2 H' (forN w b fb (w.items.drop (i + 1)) ρ S) D W, ?_, ?_⟩
        · rintro σ' H' r'
          exact ⟨m - 1, by omega, by omega, r'⟩
        · intro x H3 y
          obtain ⟨g3, c3, r3⟩ := wd.yld i κ2 H2 S2 x H3 w.items[i] (List.getElem?_eq_getElem hi') g2 s2.cells lv y
          split at p2
          · exact p2.elim
          · rename_i ρ1 eb
            refine hg.2 κ2 H3 σ2 ρ2 S2 _ x ρ1 _ (s2.grow g3 c3) r3 eb fun σ4 _ s4 => ?_
            refine ⟨κ2, ρ1, S2, s4, ?_⟩
            exact (PostS.grow g3 p2).loop fun σ' κ' H' ρ' S' g' s' p' => ⟨κ', ρ', S', (g2.trans g3).trans g', s', p'⟩
      · exact p2.elim
    · have e0 : w.items.drop i = [] := List.drop_eq_nil_iff.mpr (by omega)
      rw [e0] at p2
      unfold forN at p2
      split at p2
      · rename_i lv
        have : i = w.items.length := by omega
        subst this
        exact .inl ⟨wd.stop κ2 H2 S2 g2 s2.cells lv, p2 σ2 κ2 H2 (.refl _ _) s2⟩
      · exact p2.elim

/-! ### [elt for tg in iter if cond] -/
def wipeE (ρ : Env') : List Nat → Env'
  | [] => ρ
  | v :: vs => (wipeE ρ vs).set v none
theorem wipeE_length (ρ : Env') : ∀ vs, (wipeE ρ vs).length = ρ.length
  | [] => rfl
  | v :: vs => by unfold wipeE; rw [List.length_set, wipeE_length ρ vs]
theorem wipeE_get (ρ : Env') : ∀ (vs : List Nat) (j : Nat) {x : Val}, (wipeE ρ vs)[j]? = some (some x) → j ∉ vs ∧ ρ[j]? = some (some x)
  | [], j, x, h => ⟨by simp, h⟩
  | v :: vs, j, x, h => by
    unfold wipeE at h
    by_cases e : v = j
    · subst e
      by_cases hv : v < (wipeE ρ vs).length
      · rw [List.getElem?_set_self hv] at h; cases h
      · rw [List.getElem?_eq_none (by rw [List.length_set]; omega)] at h; cases h
    · rw [List.getElem?_set_ne e] at h
      obtain ⟨h1, h2⟩ := wipeE_get ρ vs j h
      exact ⟨fun m => (List.mem_cons.mp m).elim (fun z => e z.symm) h1, h2⟩
theorem Sim.wipe {C : Ctx} {κ : Ks} {H : Hp} {σ : L2.St} {ρ : Env'} {S : Store} (s : Sim C κ H σ ρ S) (vs : List Nat) : Sim C κ H (wipe σ vs) (wipeE ρ vs) S :=
  ⟨s.cells, by rw [wipe_length, wipeE_length, s.len], fun i x e => by
    obtain ⟨n, e'⟩ := wipeE_get ρ vs i e
    obtain ⟨v, q, r⟩ := s.env i x e'
    exact ⟨v, by rw [wipe_get, if_neg n]; exact q, r⟩⟩
def dat (v : Val) : M D := fun S => match v with
  | .d x => .ok x S
  | .cell _ => .bad
/-- where nothing may be raised -/
def Out.bnd {α β : Type} (o : Out α) (f : α → M β) : Out β := match o with
  | .ok a S => f a S
  | _ => .bad
open Classical in
/-- one turn behind another; acc: what is made so far -/
noncomputable def lcN (w : Walk) (b : TB) (cond : Env' → M Bool) (elt : Env' → M Val) (ρ : Env') : List D → List D → M (List D)
  | [], acc => fun S => if w.live S then .ok acc S else .bad
  | x :: xs, acc => fun S => if w.live S then (match b x ρ with
      | none => .bad
      | some ρ1 => (cond ρ1 S).bnd fun k S1 => if k = true then ((elt ρ1 S1).bnd fun v S2 => (dat v S2).bnd fun d S3 => if acc.length < 1000000 then lcN w b cond elt ρ xs (acc ++ [d]) S3 else .bad)
          else lcN w b cond elt ρ xs acc S1) else .bad
noncomputable def nLc (f : Env' → M Walk) (b : TB) (cond : Env' → M Bool) (elt : Env' → M Val) (vs : List Nat) : Env' → M (List D) := fun ρ => M.bind (f ρ) fun w => lcN w b cond elt (wipeE ρ vs) w.items []
abbrev W0 : WX := fun _ _ _ _ => False
theorem mil_lt {n : Nat} (h : n < 1000000) : n < sizeLine := by rw [sizeLine_eq]; omega
/-- the first of two where nothing may be raised: whatever is wanted of the rest -/
theorem bnd_post {α β γ : Type} {C : Ctx} {rel : Ks → Hp → α → β → Prop} {κ : Ks} {H : Hp} {o : Out α} {f : α → M γ} {Z : Out γ → Prop} (hz : ¬ Z .bad) (h : Z (o.bnd f)) {E : XK} :
    PostG C rel κ H o (fun b H1 => ∃ κ1 S1 a, Grow κ H κ1 H1 ∧ Cells C κ1 H1 S1 ∧ rel κ1 H1 a b ∧ Z (f a S1)) E := by
  cases o with
  | ok a S => exact fun b κ1 H1 g c r => ⟨κ1, S, a, g, c, r, h⟩
  | exc e S => exact (hz h).elim
  | bad => exact (hz h).elim
/-- the reading of a comprehension -/
theorem ev_lc {X X' : Cx} {W : WX} {tg : Expr} {fi : Env' → M Walk} {b : TB} {g : TG} {cond : Env' → M Bool} {elt : Env' → M Val} {vs ts : List Nat} (hts : ∀ i ∈ ts, i ∈ vs) (hg : DG X' tg ts b g) (hcx : cx X' = cx X) {σ : L2.St} {H : Hp} {Q : VK} (h : EvN (cx X) W (nLc fi b cond elt vs) σ H Q) :
    tLc (EvI (cx X) W fi) g (Ev (cx X) relEq W0 cond) (Ev (cx X) (relV (cx X)) W0 elt) vs σ H Q := by
  obtain ⟨κ, ρ, S, s, p⟩ := h
  refine ⟨κ, ρ, S, s, ?_⟩
  unfold nLc M.bind at p
  cases q : fi ρ S with
  | bad => rw [q] at p; exact p
  | exc e S' => rw [q] at p; exact p
  | ok w S' =>
    rw [q] at p
    intro J κ1 H1 g1 c1 wd L hL
    have s1 := s.grow g1 c1
    have p1 := PostN.grow g1 p
    have gl : Grow κ1 H1 (κ1.ex L) (upd H1 L (.lst [])) := (Grow.lock hL).trans (.laid hL)
    have hLc : L ∉ κ1.cells := c1.notin hL
    refine ⟨fun i m H2 => i + m = w.items.length ∧ ∃ κ2 S2 acc av, Grow κ1 H1 κ2 H2 ∧ L ∈ κ2.more ∧ H2 L = some (.lst av) ∧ Cells (cx X) κ2 H2 S2 ∧ RepL (cx X) κ2 H2 acc av ∧ PostN (cx X) κ1 H1 (lcN w b cond elt (wipeE ρ vs) (w.items.drop i) acc S2) Q (fun c d H' => W c d σ H'),
      ⟨w.items.length, by omega, κ1.ex L, S', [], [], gl, List.mem_cons_self, upd_same, c1.lay_ex hL, .nil, p1⟩, ?_⟩
    rintro i m H2 ⟨him, κ2, S2, acc, av, gw, hLm, hl, c2, ra, p2⟩
    by_cases hi' : i < w.items.length
    · rw [List.drop_eq_getElem_cons hi'] at p2
      unfold lcN at p2
      split at p2
      · rename_i lv
        refine .inr ⟨wd.go i κ2 H2 S2 hi' gw c2 lv, ?_⟩
        refine ⟨fun H2 => ∃ κ2 S2 acc av, Grow κ1 H1 κ2 H2 ∧ L ∈ κ2.more ∧ H2 L = some (.lst av) ∧ Cells (cx X) κ2 H2 S2 ∧ RepL (cx X) κ2 H2 acc av ∧ PostN (cx X) κ1 H1 (lcN w b cond elt (wipeE ρ vs) (w.items.drop (i + 1)) acc S2) Q (fun c d H' => W c d σ H'), ?_, ?_⟩
        · rintro H' r'
          exact ⟨m - 1, by omega, by omega, r'⟩
        · intro x H3 y
          obtain ⟨g3, c3, r3⟩ := wd.yld i κ2 H2 S2 x H3 w.items[i] (List.getElem?_eq_getElem hi') gw c2 lv y
          split at p2
          · exact p2.elim
          · rename_i ρ1 eb
            have go := hg.2
            rw [hcx] at go
            refine go κ2 H3 (wipe σ vs) (wipeE ρ vs) S2 _ x ρ1 _ ((s1.grow (gw.trans g3) c3).wipe vs) r3 eb fun σ4 o4 s4 => ⟨?_, ?_⟩
            · have o1 : OnlyAt vs σ (wipe σ vs) := ⟨wipe_length σ vs, fun j n => by rw [wipe_get, if_neg n]⟩
              have o5 : OnlyAt vs (wipe σ vs) σ4 := ⟨o4.1, fun j n => o4.2 j fun z => n (hts j z)⟩
              rw [wipe_only o5, wipe_only o1]
            · refine ⟨κ2, ρ1, S2, s4, ?_⟩
              refine (bnd_post (rel := relEq) (Z := fun o => PostN (cx X) κ1 H1 o Q (fun c d H' => W c d σ H')) (fun z => z) p2).mono ?_
              rintro k H5 ⟨κ5, S5, a, g5, c5, rfl, p5⟩
              cases a with
              | false =>
                rw [if_neg Bool.false_ne_true] at p5 ⊢
                have gg := g3.trans g5
                exact ⟨κ5, S5, acc, av, gw.trans gg, gg.held L hLm, gg.keep L _ (c2.occ L hLm).1 hl, c5, ra.grow gg, p5⟩
              | true =>
                rw [if_pos rfl] at p5 ⊢
                refine ⟨κ5, ρ1, S5, s4.grow g5 c5, ?_⟩
                refine (bnd_post (rel := relV (cx X)) (Z := fun o => PostN (cx X) κ1 H1 o Q (fun c d H' => W c d σ H')) (fun z => z) p5).mono ?_
                rintro z H6 ⟨κ6, S6, v6, g6, c6, r6, p6⟩
                cases v6 with
                | cell n => exact p6.elim
                | d d6 =>
                  have p7 : PostN (cx X) κ1 H1 (if acc.length < 1000000 then lcN w b cond elt (wipeE ρ vs) (w.items.drop (i + 1)) (acc ++ [d6]) S6 else .bad) Q (fun c d H' => W c d σ H') := p6
                  split at p7
                  · rename_i hz
                    have gg := (g3.trans g5).trans g6
                    have h6 : H6 L = some (.lst av) := gg.keep L _ (c2.occ L hLm).1 hl
                    have rr := ra.grow gg
                    refine ⟨av, h6, mil_lt (by rw [rr.length]; exact hz), ?_⟩
                    have hL6 : L ∈ κ6.more := gg.held L hLm
                    have st : Stp κ6 H6 κ6 (upd H6 L (.lst (av ++ [z]))) := .upd hL6 h6
                    exact ⟨κ6, S6, acc ++ [d6], av ++ [z], (gw.trans gg).upd_new hL, hL6, upd_same, c6.upd hL6 h6, (rr.append (.cons r6 .nil)).stp st, p7⟩
                  · exact p7.elim
      · exact p2.elim
    · have e0 : w.items.drop i = [] := List.drop_eq_nil_iff.mpr (by omega)
      rw [e0] at p2
      unfold lcN at p2
      split at p2
      · rename_i lv
        have : i = w.items.length := by omega
        subst this
        have le : Less κ2 ((κ2.drop L).ex L) := ⟨fun a h => ⟨h.1, fun m => h.2 (Ks.drop_mem m hLm)⟩⟩
        refine .inl ⟨wd.stop κ2 H2 S2 gw c2 lv, p2 L av (κ2.drop L) H2 ?_ hL (κ2.drop_notin L) hl (c2.less rfl fun a m => Ks.drop_mem m hLm) (ra.less le)⟩
        refine ⟨gw.pre, fun a m => gw.more a (List.mem_filter.mp m).1, fun a m => List.mem_filter.mpr ⟨gw.held a m, decide_eq_true fun e => ?_⟩, gw.keep, gw.new, gw.there, gw.tups, gw.frzs⟩
        obtain ⟨_, o, q⟩ := c1.occ a m
        rw [e, hL] at q; cases q
      · exact p2.elim
end Dn

/-! Dn3: comprehension rules, calls, defs. -/
namespace Dn
open PySem PySem.Spec PyProof.Rows L2

/-! ### comprehensions -/
def cYes : Env' → M Bool := fun _ => M.pure true
section
variable {X : Cx} {W : WX} {pos spos : Pos} {elt tg iter : Expr} {ifs : List Expr} {scope : Scope} {own : List (Str × Nat)} {fi : Env' → M Walk} {ts : List Nat} {b : TB} {g : TG} {cond : Env' → M Bool} {fe : Env' → M Val}
theorem dts_nil : PTs X [] (Ev (cx X) relEq W cYes) := ⟨fun pins s σ H Q I h => pts_nil.run pins s σ H Q I (by
  obtain ⟨κ, ρ, S, sm, p⟩ := h
  exact PostG.ok (a := true) (b := true) p sm.cells rfl)⟩
theorem dts_one {c : Expr} {f : Env' → M Bool} (h : DT X W c f) : PTs X [c] (Ev (cx X) relEq W f) := pts_one h
theorem dn_lc (hc : X.calm = true) (hN : X.N.Nodup) (ok : BlkOk X.N X.env.scope scope own) (hi : DI X W tg iter fi)
    (hg : ∀ (s : Shared) (H : Hp) (C : Addr) (cl : List (Str × Addr)) (fp : List Addr), DG (X.blk s H scope (compEnvC scope cl C X.env) fp) tg ts b g)
    (ht : ∀ (s : Shared) (H : Hp) (C : Addr) (cl : List (Str × Addr)) (fp : List Addr), PTs (X.blk s H scope (compEnvC scope cl C X.env) fp) ifs (Ev (cx X) relEq W0 cond))
    (he : ∀ (s : Shared) (H : Hp) (C : Addr) (cl : List (Str × Addr)) (fp : List Addr), DE (X.blk s H scope (compEnvC scope cl C X.env) fp) W0 elt fe)
    (hts : ∀ i ∈ ts, i ∈ own.map (·.2)) (hs : ∀ x, foldedSetIterable iter X.env x = pure x := by intro _; rfl) :
    DN X W (.ListComp elt [⟨tg, iter, ifs, 0⟩] scope pos) (nLc fi b cond fe (own.map (·.2))) := by
  refine ⟨fun pins s σ H Q I h => ?_⟩
  refine (pe_lc (te := Ev (cx X) (relV (cx X)) W0 fe) hc hN hi ok (fun s H C cl fp => (hg s H C cl fp).pg) ht he hs).run pins s σ H Q I ?_
  exact ev_lc (X' := X.blk s H scope (compEnvC scope [] 0 X.env) []) hts (hg s H 0 [] []) rfl h
theorem ps_lc {i : Nat} {y : Str} {py : Pos} (hc : X.calm = true) (hN : X.N.Nodup) (hy : X.N[i]? = some y) (hyl : X.env.scope.names.lookup y = some .local)
    (hsw : swapsWith (.ListComp elt [⟨tg, iter, ifs, 0⟩] scope pos) (some (.Name y py)) spos.line X.env = pure true) (ok : BlkOk X.N X.env.scope scope own) (hi : DI X W tg iter fi)
    (hg : ∀ (s : Shared) (H : Hp) (C : Addr) (cl : List (Str × Addr)) (fp : List Addr), DG (X.blk s H scope (compEnvC scope cl C X.env) fp) tg ts b g)
    (ht : ∀ (s : Shared) (H : Hp) (C : Addr) (cl : List (Str × Addr)) (fp : List Addr), PTs (X.blk s H scope (compEnvC scope cl C X.env) fp) ifs (Ev (cx X) relEq W0 cond))
    (he : ∀ (s : Shared) (H : Hp) (C : Addr) (cl : List (Str × Addr)) (fp : List Addr), DE (X.blk s H scope (compEnvC scope cl C X.env) fp) W0 elt fe)
    (hts : ∀ i ∈ ts, i ∈ own.map (·.2)) (hs : ∀ x, foldedSetIterable iter X.env x = pure x := by intro _; rfl) :
    PS X (.Assign [.Name y py] (.ListComp elt [⟨tg, iter, ifs, 0⟩] scope pos) spos) (tAsg (EvN (cx X) W (nLc fi b cond fe (own.map (·.2)))) (gName i)) := by
  refine ⟨fun pins s σ H D I h => ?_⟩
  refine (ps_setLc (te := Ev (cx X) (relV (cx X)) W0 fe) hc hN hy hyl hsw hi ok (fun s H C cl fp => (hg s H C cl fp).pg) ht he hs).run pins s σ H D I ?_
  exact ev_lc (X' := X.blk s H scope (compEnvC scope [] 0 X.env) []) hts (hg s H 0 [] []) rfl h
end

/-! ### a def's promise by a plain function -/
def spD (C : Ctx) (n : Nat) (den : List Val → M Val) : Sp := fun vs H Q E => vs.length = n ∧ ∃ κ S ds, Cells C κ H S ∧ RepVs C κ H ds vs ∧ PostG C (relV C) κ H (den ds S) Q E
/-- what is made in a def goes with it; a cell of its own that is handed back is data from now on -/
def exitV (n : Nat) (v : Val) (S : Store) : Out Val := if S.length = n then .ok v S else match v with
  | .d x => .ok (.d x) (S.take n)
  | .cell m => if m < n then .ok (.cell m) (S.take n) else match S[m]? with
    | some (.lst xs) => .ok (.d (.lst xs)) (S.take n)
    | some (.dct ks ds) => .ok (.d (.dct ks ds)) (S.take n)
    | _ => .bad
def envOf (n : Nat) (args : List Val) : Env' := args.map some ++ List.replicate (n - args.length) none
def runF (n : Nat) (body : SD) (args : List Val) : M Val := fun S => match body (envOf n args) S with
  | .next _ S' => exitV S.length (.d .non) S'
  | .ret v S' => exitV S.length v S'
  | .exc e _ S' => .exc e (S'.take S.length)
  | _ => .bad
/-- a def whose new cells stay -/
def runK (n : Nat) (body : SD) (args : List Val) : M Val := fun S => match body (envOf n args) S with
  | .next _ S' => .ok (.d .non) S'
  | .ret v S' => .ok v S'
  | .exc e _ S' => .exc e S'
  | _ => .bad
section
variable {C : Ctx} {κ κ' : Ks} {H H' : Hp} {S S' : Store}
theorem Cells.prefix_len (c : Cells C κ H S) : κ.cells.length = S.length := c.len
/-- back to the entry's cells -/
theorem exit_ks (c : Cells C κ H S) (g : Grow κ H κ' H') (c' : Cells C κ' H' S') : Grow κ H ⟨κ.cells, κ'.more⟩ H' ∧ Cells C ⟨κ.cells, κ'.more⟩ H' (S'.take S.length) ∧ Less κ' ⟨κ.cells, κ'.more⟩ := by
  obtain ⟨l, e⟩ := g.pre
  have le : Less κ' ⟨κ.cells, κ'.more⟩ := ⟨fun a h => ⟨fun m => h.1 (by rw [e]; exact List.mem_append_left _ m), h.2⟩⟩
  have hlen : S.length ≤ S'.length := by rw [← c.len, ← c'.len, e, List.length_append]; omega
  refine ⟨⟨⟨[], by simp⟩, g.more, g.held, g.keep, fun a m n => absurd m n, g.there, g.tups, g.frzs⟩, ⟨?_, c.nd, fun n x a h1 h2 => ?_, fun a m => ?_⟩, le⟩
  · show κ.cells.length = _
    rw [List.length_take, Nat.min_eq_left hlen, c.len]
  · have h2' : κ.cells[n]? = some a := h2
    have hn : n < κ.cells.length := (List.getElem?_eq_some_iff.mp h2').1
    have h1' : S'[n]? = some x := by
      rw [List.getElem?_take_of_lt (by rw [← c.len]; exact hn)] at h1
      exact h1
    have h3 : κ'.cells[n]? = some a := by rw [e, List.getElem?_append_left hn]; exact h2'
    refine (c'.ok n x a h1' h3).imp (Rep.less le) (RepL.less le) fun k b hk hb => ?_
    show κ.cells[k]? = some b
    rw [e, List.getElem?_append_left (by omega)] at hb
    exact hb
  · obtain ⟨n, o, q⟩ := c'.occ a m
    exact ⟨fun z => n (by rw [e]; exact List.mem_append_left _ z), o, q⟩
theorem exit_post {v : Val} {u : V} {Q : V → Hp → Prop} {E : XK} (c : Cells C κ H S) (g : Grow κ H κ' H') (c' : Cells C κ' H' S') (r : RepV C κ' H' v u) (p : PostG C (relV C) κ H (exitV S.length v S') Q E) : Q u H' := by
  obtain ⟨l, e⟩ := g.pre
  unfold exitV at p
  split at p
  · exact p u κ' H' g c' r
  · obtain ⟨g0, c0, le⟩ := exit_ks c g c'
    split at p
    · exact p u _ H' g0 c0 (Rep.less le r)
    · rename_i m
      obtain ⟨a, ha, hu⟩ := r
      split at p
      · rename_i hm
        refine p u _ H' g0 c0 ⟨a, ?_, hu⟩
        show κ.cells[m]? = some a
        rw [e, List.getElem?_append_left (by rw [c.len]; exact hm)] at ha
        exact ha
      · rename_i hm
        have na : (⟨κ.cells, κ'.more⟩ : Ks).out a := by
          refine ⟨fun z => ?_, fun z => (c'.occ a z).1 (List.mem_of_getElem? ha)⟩
          obtain ⟨j, hj, ej⟩ := List.getElem_of_mem (show a ∈ κ.cells from z)
          have h1 : κ'.cells[j]? = some a := by rw [e, List.getElem?_append_left hj, ← ej]; exact List.getElem?_eq_getElem hj
          obtain ⟨b1, e1⟩ := List.getElem?_eq_some_iff.mp h1
          obtain ⟨b2, e2⟩ := List.getElem?_eq_some_iff.mp ha
          have := (List.getElem_inj c'.nd).mp (e1.trans e2.symm)
          rw [c.len] at hj
          omega
        split at p
        · rename_i xs q
          refine p u _ H' g0 c0 ?_
          obtain ⟨vs, z, rr⟩ := c'.ok m _ a q ha
          show Rep C _ H' (.lst xs) u
          unfold Rep
          exact ⟨a, vs, hu, z, na, rr.less le⟩
        · rename_i ks ds q
          refine p u _ H' g0 c0 ?_
          have z := c'.ok m _ a q ha
          show Rep C _ H' (.dct ks ds) u
          unfold Rep
          refine ⟨a, hu, na, ?_⟩
          rcases z with ⟨kvs, z1, z2, z3⟩ | ⟨kvs, z1, z2, z3⟩
          · exact .inl ⟨kvs, z1, z2, z3.less le⟩
          · exact .inr ⟨kvs, z1, z2, z3.less le⟩
        · exact p.elim
theorem ExcRep.less {e : Exc} {cls : Value} {dd : Option Addr} (le : Less κ κ') (r : ExcRep C κ H e cls dd) : ExcRep C κ' H e cls dd := by
  obtain ⟨Ca, h1, h2, h3⟩ := r
  refine ⟨Ca, h1, h2, ?_⟩
  cases q : e.fs with
  | nil => rw [q] at h3; exact h3
  | cons p t =>
    obtain ⟨f, x⟩ := p
    rw [q] at h3
    obtain ⟨dx, v, a1, a2, a3, a4⟩ := h3
    exact ⟨dx, v, a1, a2, a3, a4.less le⟩
/-- the state at a def's start -/
theorem sim_start {ds : List Val} {vs : List V} {N : List Str} (c : Cells C κ H S) (r : RepVs C κ H ds vs) : Sim C κ H (L2.start N vs) (envOf N.length ds) S := by
  have hl := r.length
  refine ⟨c, by unfold L2.start envOf; simp [hl], fun i x e => ?_⟩
  unfold envOf at e
  have hi : i < ds.length := by
    by_cases hi : i < ds.length
    · exact hi
    · rw [List.getElem?_append_right (by simpa using hi), List.getElem?_replicate] at e
      split at e <;> cases e
  rw [List.getElem?_append_left (by simpa using hi), List.getElem?_map] at e
  obtain ⟨d, e1, e2⟩ := Option.map_eq_some_iff.mp e
  cases e2
  obtain ⟨v, hv, rv⟩ := r.get e1
  refine ⟨v, ?_, rv⟩
  unfold L2.start
  rw [List.getElem?_append_left (by simpa [hl] using hi), List.getElem?_map, hv]
  rfl
end

section
variable {P : Program} {w : World} {K : PySem.W.Frag} {mg : Str → Option Value} {base : Heap}
/-- a def by its body's function -/
theorem okF {x qual : Str} {st : Stmt} {f : Addr} {fd : FuncData} {N ps : List Str} {k : Nat} {body : SD} (F : Fun K x qual st f fd) (S : FnScope N ps (defScope st))
    (hbody : ∀ (cdv : Value) (A : Around) (outer : List Env) (s : Shared) (H : Hp) (E : XK), Room k (A.deeper (envOfC qual (defScope st) s.heap.objs.size f cdv)) →
      DSs (cxOf (L2.CX P w) P w K mg base N qual (defScope st) f cdv A outer s H E) (fun cls d _ H => E cls d H) (defBody st) body) :
    FnOk P w K mg base (L2.CX P w) (k + 1) f fd ps (spD ⟨K, mg⟩ ps.length (runF N.length body)) :=
  F.okX S (fun vs H Q E h => h.1) fun cdv A outer s H vs Q E hr hsp => by
  refine ⟨_, hbody cdv A outer s H E hr, ?_⟩
  obtain ⟨hl, κ, S0, ds, c, r, p⟩ := hsp
  refine ⟨κ, envOf N.length ds, S0, sim_start c r, ?_⟩
  unfold runF at p
  cases q : body (envOf N.length ds) S0 with
  | next ρ' S' => rw [q] at p; exact fun σ' κ' H' g s' => exit_post c g s'.cells RepV.non p
  | ret v S' => rw [q] at p; exact fun u κ' H' g c' r' => exit_post c g c' r' p
  | exc e ρ' S' =>
    rw [q] at p
    exact fun cls dd σ' κ' H' g s' r' => by
      obtain ⟨g0, c0, le⟩ := exit_ks c g s'.cells
      exact p cls dd _ H' g0 c0 (r'.less le)
  | brk ρ' S' => rw [q] at p; exact p.elim
  | cont ρ' S' => rw [q] at p; exact p.elim
  | bad => rw [q] at p; exact p.elim
/-- .. whose new cells stay -/
theorem okK {x qual : Str} {st : Stmt} {f : Addr} {fd : FuncData} {N ps : List Str} {k : Nat} {body : SD} (F : Fun K x qual st f fd) (S : FnScope N ps (defScope st))
    (hbody : ∀ (cdv : Value) (A : Around) (outer : List Env) (s : Shared) (H : Hp) (E : XK), Room k (A.deeper (envOfC qual (defScope st) s.heap.objs.size f cdv)) →
      DSs (cxOf (L2.CX P w) P w K mg base N qual (defScope st) f cdv A outer s H E) (fun cls d _ H => E cls d H) (defBody st) body) :
    FnOk P w K mg base (L2.CX P w) (k + 1) f fd ps (spD ⟨K, mg⟩ ps.length (runK N.length body)) :=
  F.okX S (fun vs H Q E h => h.1) fun cdv A outer s H vs Q E hr hsp => by
  refine ⟨_, hbody cdv A outer s H E hr, ?_⟩
  obtain ⟨hl, κ, S0, ds, c, r, p⟩ := hsp
  refine ⟨κ, envOf N.length ds, S0, sim_start c r, ?_⟩
  unfold runK at p
  cases q : body (envOf N.length ds) S0 with
  | next ρ' S' => rw [q] at p; exact fun σ' κ' H' g s' => p .non κ' H' g s'.cells RepV.non
  | ret v S' => rw [q] at p; exact p
  | exc e ρ' S' => rw [q] at p; exact fun cls dd σ' κ' H' g s' r' => p cls dd κ' H' g s'.cells r'
  | brk ρ' S' => rw [q] at p; exact p.elim
  | cont ρ' S' => rw [q] at p; exact p.elim
  | bad => rw [q] at p; exact p.elim
end

/-! ### calls -/
def LenA (g : Env' → M (List Val)) (n : Nat) : Prop := ∀ ρ S vs S', g ρ S = .ok vs S' → vs.length = n
theorem len_nil : LenA dNil 0 := fun ρ S vs S' h => by unfold dNil M.pure at h; cases h; rfl
theorem len_cons {f : Env' → M Val} {g : Env' → M (List Val)} {n : Nat} (h : LenA g n) : LenA (dCons f g) (n + 1) := fun ρ S vs S' e => by
  unfold dCons M.bind at e
  cases q : f ρ S with
  | ok a S1 =>
    rw [q] at e
    have e : (g ρ S1).bind (fun r => M.pure (a :: r)) = .ok vs S' := e
    cases q2 : g ρ S1 with
    | ok r S2 =>
      rw [q2] at e
      have e : Out.ok (a :: r) S2 = .ok vs S' := e
      cases e
      rw [List.length_cons, h ρ S1 r _ q2]
    | exc _ _ => rw [q2] at e; cases e
    | bad => rw [q2] at e; cases e
  | exc _ _ => rw [q] at e; cases e
  | bad => rw [q] at e; cases e
def dCall (den : List Val → M Val) (g : Env' → M (List Val)) : Env' → M Val := fun ρ => M.bind (g ρ) den
section
variable {X : Cx} {W : WX} {k : Nat} {f : Addr} {fd : FuncData} {ps ks : List Str} {den : List Val → M Val} {n : Nat} {x : Str} {p pos : Pos} {e : Expr} {es : List Expr} {g : Env' → M (List Val)}
theorem de_call (F : FnOk X.prog X.w X.K X.mg X.base (L2.CX X.prog X.w) k f fd ps (spD (cx X) n den)) (hr : Room k X.A) (hg : Gl X x) (hm : X.mg x = some (.ref f)) (hk : PySem.W.keepIn X.K (.ref f) = true) (hb : Binds X.K fd ps []) (tk : Takes X W)
    (ha : DA X W (e :: es) g) (hn : LenA g n) (hdb : (x == ("__debug__" : Str)) = false := by decide) (he : starEach (e :: es) X.env = (false, eval e X.env) :: starEach es X.env := by rfl) (hpl : (backTo pos (starEach es X.env)).any (·.1) = false := by rfl) :
    DE X W (.Call (.Name x p) (e :: es) [] pos) (dCall den g) := pe_imp (pe_callS F hr hg hm hk hb (fun σ => passAt tk σ) ha hdb he hpl) fun σ H Q h => by
  obtain ⟨κ, ρ, S, s, p⟩ := h
  refine ⟨κ, ρ, S, s, ?_⟩
  unfold dCall M.bind at p
  cases q : g ρ S with
  | ok vs S' =>
    rw [q] at p
    exact fun us κ1 H1 g1 c1 r1 => ⟨by rw [r1.length]; exact hn ρ S vs S' q, κ1, S', vs, c1, r1, PostG.grow g1 p⟩
  | exc e S' => rw [q] at p; exact p
  | bad => rw [q] at p; exact p
end
end Dn

/-! Dn4: operators and built-ins by values. -/
namespace Dn
open PySem PySem.Spec PyProof.Rows L2

/-! ### data as the library's data -/
mutual
def py : D → Option PyData
  | .non => some .none
  | .bl b => some (.bool b)
  | .int i => some (.int i)
  | .str x => some (.str x)
  | .tup xs => (pyL xs).map .tuple
  | .lst xs => (pyL xs).map .list
  | .dct _ _ => none
  | .glo _ => none
  | .ty _ => none
  | .scr _ => none
def pyL : List D → Option (List PyData)
  | [] => some []
  | x :: xs => match py x, pyL xs with
    | some y, some ys => some (y :: ys)
    | _, _ => none
end
mutual
theorem py_plain : ∀ {d : D} {p : PyData}, py d = some p → p.plain = true
  | .non, _, h => by unfold py at h; cases h; rfl
  | .bl _, _, h => by unfold py at h; cases h; rfl
  | .int _, _, h => by unfold py at h; cases h; rfl
  | .str _, _, h => by unfold py at h; cases h; rfl
  | .tup xs, _, h => by
    unfold py at h
    obtain ⟨ys, e1, e2⟩ := Option.map_eq_some_iff.mp h
    subst e2
    unfold PyData.plain
    exact pyL_plain e1
  | .lst xs, _, h => by
    unfold py at h
    obtain ⟨ys, e1, e2⟩ := Option.map_eq_some_iff.mp h
    subst e2
    unfold PyData.plain
    exact pyL_plain e1
  | .dct _ _, _, h => by unfold py at h; cases h
  | .glo _, _, h => by unfold py at h; cases h
  | .ty _, _, h => by unfold py at h; cases h
  | .scr _, _, h => by unfold py at h; cases h
theorem pyL_plain : ∀ {ds : List D} {ps : List PyData}, pyL ds = some ps → PyData.plainAll ps = true
  | [], _, h => by unfold pyL at h; cases h; rfl
  | x :: xs, _, h => by
    unfold pyL at h
    split at h
    · rename_i y ys e1 e2
      cases h
      unfold PyData.plainAll
      rw [py_plain e1, pyL_plain e2]
      rfl
    · cases h
end
mutual
theorem Rep.dp {C : Ctx} {κ : Ks} {H : Hp} : ∀ {d : D} {v : V} {p : PyData}, Rep C κ H d v → py d = some p → Dp C.K H v p
  | .non, _, _, h, e => by unfold Rep at h; unfold py at e; subst h; cases e; exact .non
  | .bl _, _, _, h, e => by unfold Rep at h; unfold py at e; subst h; cases e; exact .bl _
  | .int _, _, _, h, e => by unfold Rep at h; unfold py at e; subst h; cases e; exact .int _
  | .str _, _, _, h, e => by unfold Rep at h; unfold py at e; subst h; cases e; exact .str _
  | .tup xs, _, _, h, e => by
    unfold Rep at h; unfold py at e
    obtain ⟨a, vs, ea, s, r⟩ := h
    obtain ⟨ys, e1, e2⟩ := Option.map_eq_some_iff.mp e
    subst ea e2
    exact .tup (.of s) (RepL.dp r e1)
  | .lst xs, _, _, h, e => by
    unfold Rep at h; unfold py at e
    obtain ⟨a, vs, ea, s, _, r⟩ := h
    obtain ⟨ys, e1, e2⟩ := Option.map_eq_some_iff.mp e
    subst ea e2
    exact .lst (.of s) (RepL.dp r e1)
  | .dct _ _, _, _, _, e => by unfold py at e; cases e
  | .glo _, _, _, _, e => by unfold py at e; cases e
  | .ty _, _, _, _, e => by unfold py at e; cases e
  | .scr _, _, _, _, e => by unfold py at e; cases e
theorem RepL.dp {C : Ctx} {κ : Ks} {H : Hp} : ∀ {ds : List D} {vs : List V} {ps : List PyData}, RepL C κ H ds vs → pyL ds = some ps → DpAll C.K H vs ps
  | [], _, _, h, e => by unfold pyL at e; cases e; rw [h.nil_inv]; exact .nil
  | x :: xs, _, _, h, e => by
    obtain ⟨v, r, q, h1, h2⟩ := h.cons_inv
    subst q
    unfold pyL at e
    split at e
    · rename_i y ys e1 e2
      cases e
      exact .cons (Rep.dp h1 e1) (RepL.dp h2 e2)
    · cases e
end
theorem RepR.dp {C : Ctx} {κ : Ks} {H : Hp} {d : D} {v : V} {p : PyData} (h : RepR C κ H d v) (e : py d = some p) : Dp C.K H v p := by
  cases d with
  | lst xs =>
    obtain ⟨a, vs, ea, s, r⟩ := h
    unfold py at e
    obtain ⟨ys, e1, e2⟩ := Option.map_eq_some_iff.mp e
    subst ea e2
    exact .lst (.of s) (RepL.dp r e1)
  | dct _ _ => unfold py at e; cases e
  | _ => exact Rep.dp h e

/-! ### numbers -/
def smallI (i : Int) : Bool := decide (i.natAbs < 2 ^ 64)
def wideI (i : Int) : Bool := decide (i.natAbs.log2 < 400000)
def addD : D → D → Option D
  | .int a, .int b => some (.int (a + b))
  | .str a, .str b => if a.length + b.length ≤ 1000000 then some (.str (a ++ b)) else none
  | .tup a, .tup b => if a.length + b.length ≤ 1000000 then some (.tup (a ++ b)) else none
  | .lst a, .lst b => if a.length + b.length ≤ 1000000 then some (.lst (a ++ b)) else none
  | _, _ => none
def subD : D → D → Option D
  | .int a, .int b => some (.int (a - b))
  | _, _ => none
def mulD : D → D → Option D
  | .int a, .int b => if smallI a || smallI b || (wideI a && wideI b) then some (.int (a * b)) else none
  | .tup xs, .int k => if xs ≠ [] ∧ 2 ≤ k ∧ k ≤ 1000 ∧ xs.length ≤ 1000 then some (.tup (List.replicate k.toNat xs).flatten) else none
  | .lst xs, .int k => if 0 ≤ k ∧ k ≤ 1000 ∧ xs.length ≤ 1000 then some (.lst (List.replicate k.toNat xs).flatten) else none
  | _, _ => none
def fdivD : D → D → Option D
  | .int a, .int b => if 0 < b ∧ b.natAbs.log2 < 9000 then some (.int (a / b)) else none
  | _, _ => none
def modD : D → D → Option D
  | .int a, .int b => if 0 < b then some (.int (a % b)) else none
  | _, _ => none
def powD : D → D → Option D
  | .int a, .int b => if 0 ≤ b ∧ b ≤ 1000000 ∧ a.natAbs < 2 ^ 64 then some (.int (a ^ b.toNat)) else none
  | _, _ => none
def shlD : D → D → Option D
  | .int a, .int b => if 0 ≤ b ∧ b ≤ 1000000 ∧ a.natAbs < 2 ^ 64 then some (.int (a * 2 ^ b.toNat)) else none
  | _, _ => none
def negD : D → Option D
  | .int a => some (.int (-a))
  | _ => none
def cmpD (p : Int → Int → Bool) : D → D → Option D
  | .int a, .int b => some (.bl (p a b))
  | _, _ => none
abbrev ltD := cmpD fun a b => decide (a < b)
abbrev leD := cmpD fun a b => decide (a ≤ b)
abbrev gtD := cmpD fun a b => decide (b < a)
abbrev geD := cmpD fun a b => decide (b ≤ a)
theorem RepR.int {C : Ctx} {κ : Ks} {H : Hp} {i : Int} {v : V} (h : RepR C κ H (.int i) v) : v = .int i := Rep.int_iff.mp (show Rep C κ H (.int i) v from h)
theorem RepR.str {C : Ctx} {κ : Ks} {H : Hp} {i : Str} {v : V} (h : RepR C κ H (.str i) v) : v = .str i := Rep.str_iff.mp (show Rep C κ H (.str i) v from h)
theorem RepR.bl {C : Ctx} {κ : Ks} {H : Hp} {i : Bool} {v : V} (h : RepR C κ H (.bl i) v) : v = .bl i := Rep.bl_iff.mp (show Rep C κ H (.bl i) v from h)
theorem RepR.tup {C : Ctx} {κ : Ks} {H : Hp} {xs : List D} {v : V} (h : RepR C κ H (.tup xs) v) : ∃ a vs, v = .ref a ∧ H a = some (.tup vs) ∧ RepL C κ H xs vs := Rep.tup_iff.mp (show Rep C κ H (.tup xs) v from h)
theorem RepR.lst {C : Ctx} {κ : Ks} {H : Hp} {xs : List D} {v : V} (h : RepR C κ H (.lst xs) v) : ∃ a vs, v = .ref a ∧ H a = some (.lst vs) ∧ RepL C κ H xs vs := h
theorem RepR.scr {C : Ctx} {κ : Ks} {H : Hp} {ns : List Int} {v : V} (h : RepR C κ H (.scr ns) v) : ∃ a, v = .ref a ∧ ScrOk C.K H a ns := Rep.scr_iff.mp (show Rep C κ H (.scr ns) v from h)
theorem repInt {C : Ctx} {κ : Ks} {H : Hp} {i : Int} : Rep C κ H (.int i) (.int i) := Rep.int_iff.mpr rfl
theorem repStr {C : Ctx} {κ : Ks} {H : Hp} {i : Str} : Rep C κ H (.str i) (.str i) := Rep.str_iff.mpr rfl
theorem repBl {C : Ctx} {κ : Ks} {H : Hp} {i : Bool} : Rep C κ H (.bl i) (.bl i) := Rep.bl_iff.mpr rfl
theorem repNon {C : Ctx} {κ : Ks} {H : Hp} : Rep C κ H .non .non := Rep.non_iff.mpr rfl
/-- the wish of a result that needs no heap, of one that is laid -/
theorem want {C : Ctx} {κ : Ks} {H : Hp} {S : Store} {z : D} {v : V} {Q : VK} (c : Cells C κ H S) (q : ∀ v H', Grow κ H κ H' → Cells C κ H' S → Rep C κ H' z v → Q v H') (r : Rep C κ H z v) : Q v H := q v H (.refl _ _) c r
theorem wantT {C : Ctx} {κ : Ks} {H : Hp} {S : Store} {xs : List D} {vs : List V} {p : Addr} {Q : VK} (c : Cells C κ H S) (q : ∀ v H', Grow κ H κ H' → Cells C κ H' S → Rep C κ H' (.tup xs) v → Q v H') (r : RepL C κ H xs vs) (hp : H p = none) : Q (.ref p) (upd H p (.tup vs)) :=
  q _ _ (.laid hp) (c.laid hp) (Rep.tup_iff.mpr ⟨p, vs, rfl, upd_same, r.grow (.laid hp)⟩)
theorem wantL {C : Ctx} {κ : Ks} {H : Hp} {S : Store} {xs : List D} {vs : List V} {p : Addr} {Q : VK} (c : Cells C κ H S) (q : ∀ v H', Grow κ H κ H' → Cells C κ H' S → Rep C κ H' (.lst xs) v → Q v H') (r : RepL C κ H xs vs) (hp : H p = none) : Q (.ref p) (upd H p (.lst vs)) :=
  q _ _ (.laid hp) (c.laid hp) (Rep.lst_iff.mpr ⟨p, vs, rfl, upd_same, c.out hp, r.grow (.laid hp)⟩)
theorem two_line {n m : Nat} (h : n + m ≤ 1000000) : n + m ≤ sizeLine := by rw [sizeLine_eq]; omega
section
variable {X : Cx}
theorem oD_add : OpR X (binaryOp .Add) (rD2 (cx X) addD) := by
  intro pins s σ H x y v u Q I rx ry h
  obtain ⟨κ, S, dx, dy, z, c, hx, hy, e, q⟩ := h
  unfold addD at e
  split at e
  · cases e
    exact op_add pins s σ H x y v u Q I rx ry ⟨_, _, hx.int, hy.int, want c q repInt⟩
  · split at e
    · rename_i hz
      cases e
      exact op_add_str pins s σ H x y v u Q I rx ry ⟨_, _, hx.str, hy.str, two_line hz, want c q repStr⟩
    · cases e
  · rename_i as bs
    split at e
    · rename_i hz
      cases e
      obtain ⟨a, vs, ea, sa, ra⟩ := hx.tup
      obtain ⟨b, us, eb, sb, rb⟩ := hy.tup
      refine op_catA pins s σ H x y v u Q I rx ry ⟨a, b, vs, us, ea, eb, .of sa, .of sb, two_line (by rw [ra.length, rb.length]; exact hz), fun e0 => ?_, fun _ e0 => ?_, fun _ _ p hp => wantT c q (ra.append rb) hp⟩
      · subst e0
        have : as = [] := List.eq_nil_of_length_eq_zero ra.length.symm
        subst this
        exact want c q (Rep.tup_iff.mpr ⟨b, us, rfl, sb, rb⟩)
      · subst e0
        have : bs = [] := List.eq_nil_of_length_eq_zero rb.length.symm
        subst this
        exact want c q (Rep.tup_iff.mpr ⟨a, vs, rfl, sa, by rw [List.append_nil]; exact ra⟩)
    · cases e
  · split at e
    · rename_i hz
      cases e
      obtain ⟨a, vs, ea, sa, ra⟩ := hx.lst
      obtain ⟨b, us, eb, sb, rb⟩ := hy.lst
      exact op_cat pins s σ H x y v u Q I rx ry ⟨a, b, vs, us, ea, eb, sa, sb, two_line (by rw [ra.length, rb.length]; exact hz), fun p hp => wantL c q (ra.append rb) hp⟩
    · cases e
  · cases e
theorem oD_sub : OpR X (binaryOp .Sub) (rD2 (cx X) subD) := by
  intro pins s σ H x y v u Q I rx ry h
  obtain ⟨κ, S, dx, dy, z, c, hx, hy, e, q⟩ := h
  unfold subD at e
  split at e
  · cases e
    exact op_sub pins s σ H x y v u Q I rx ry ⟨_, _, hx.int, hy.int, want c q repInt⟩
  · cases e
theorem small_mul {i : Int} (h : smallI i = true) : -(2 ^ 64) < i ∧ i < 2 ^ 64 := by
  have := of_decide_eq_true h
  omega
theorem oD_mul : OpR X (binaryOp .Mult) (rD2 (cx X) mulD) := by
  intro pins s σ H x y v u Q I rx ry h
  obtain ⟨κ, S, dx, dy, z, c, hx, hy, e, q⟩ := h
  unfold mulD at e
  split at e
  · split at e
    · rename_i hb
      cases e
      rw [Bool.or_eq_true, Bool.or_eq_true, Bool.and_eq_true] at hb
      rcases hb with (hb | hb) | hb
      · exact op_mul pins s σ H x y v u Q I rx ry ⟨_, _, hx.int, hy.int, .inl (small_mul hb), want c q repInt⟩
      · exact op_mul pins s σ H x y v u Q I rx ry ⟨_, _, hx.int, hy.int, .inr (small_mul hb), want c q repInt⟩
      · have h1 := of_decide_eq_true hb.1
        have h2 := of_decide_eq_true hb.2
        exact op_mulW pins s σ H x y v u Q I rx ry ⟨_, _, hx.int, hy.int, by unfold CMulW; omega, want c q repInt⟩
    · cases e
  · rename_i xs k
    split at e
    · rename_i hk
      obtain ⟨h1, h2, h3, h4⟩ := hk
      cases e
      obtain ⟨a, vs, ea, sa, ra⟩ := hx.tup
      refine op_repT pins s σ H x y v u Q I rx ry ⟨a, k, vs, ea, hy.int, .of sa, fun e0 => h1 ?_, h2, h3, by rw [ra.length]; exact h4, fun p hp => wantT c q ?_ hp⟩
      · subst e0
        exact List.eq_nil_of_length_eq_zero ra.length.symm
      · generalize k.toNat = n
        induction n with
        | zero => exact .nil
        | succ n ih => rw [List.replicate_succ, List.replicate_succ, List.flatten_cons, List.flatten_cons]; exact ra.append ih
    · cases e
  · rename_i xs k
    split at e
    · rename_i hk
      obtain ⟨h1, h2, h3⟩ := hk
      cases e
      obtain ⟨a, vs, ea, sa, ra⟩ := hx.lst
      have hm : vs.length * k.toNat ≤ sizeLine := by
        have : vs.length * k.toNat ≤ 1000 * 1000 := Nat.mul_le_mul (by rw [ra.length]; exact h3) (by omega)
        rw [sizeLine_eq]; omega
      refine op_rep pins s σ H x y v u Q I rx ry ⟨a, k, vs, ea, hy.int, sa, by omega, by omega, hm, fun p hp => wantL c q ?_ hp⟩
      generalize k.toNat = n
      induction n with
      | zero => exact .nil
      | succ n ih => rw [List.replicate_succ, List.replicate_succ, List.flatten_cons, List.flatten_cons]; exact ra.append ih
    · cases e
  · cases e
theorem oD_fdiv : OpR X (binaryOp .FloorDiv) (rD2 (cx X) fdivD) := by
  intro pins s σ H x y v u Q I rx ry h
  obtain ⟨κ, S, dx, dy, z, c, hx, hy, e, q⟩ := h
  unfold fdivD at e
  split at e
  · split at e
    · rename_i hb
      cases e
      exact op_fdivW pins s σ H x y v u Q I rx ry ⟨_, _, hx.int, hy.int, hb, want c q repInt⟩
    · cases e
  · cases e
theorem oD_mod : OpR X (binaryOp .Mod) (rD2 (cx X) modD) := by
  intro pins s σ H x y v u Q I rx ry h
  obtain ⟨κ, S, dx, dy, z, c, hx, hy, e, q⟩ := h
  unfold modD at e
  split at e
  · split at e
    · rename_i hb
      cases e
      exact op_mod pins s σ H x y v u Q I rx ry ⟨_, _, hx.int, hy.int, hb, want c q repInt⟩
    · cases e
  · cases e
theorem oD_pow : OpR X (binaryOp .Pow) (rD2 (cx X) powD) := by
  intro pins s σ H x y v u Q I rx ry h
  obtain ⟨κ, S, dx, dy, z, c, hx, hy, e, q⟩ := h
  unfold powD at e
  split at e
  · split at e
    · rename_i hb
      cases e
      exact op_pow pins s σ H x y v u Q I rx ry ⟨_, _, hx.int, hy.int, hb, want c q repInt⟩
    · cases e
  · cases e
theorem oD_shl : OpR X (binaryOp .LShift) (rD2 (cx X) shlD) := by
  intro pins s σ H x y v u Q I rx ry h
  obtain ⟨κ, S, dx, dy, z, c, hx, hy, e, q⟩ := h
  unfold shlD at e
  split at e
  · split at e
    · rename_i hb
      cases e
      exact op_shl pins s σ H x y v u Q I rx ry ⟨_, _, hx.int, hy.int, hb, want c q repInt⟩
    · cases e
  · cases e
theorem uD_neg : UnR X (unaryOp .USub) (rD1 (cx X) negD) := by
  intro pins s σ H x v Q I rx h
  obtain ⟨κ, S, dx, z, c, hx, e, q⟩ := h
  unfold negD at e
  split at e
  · cases e
    exact un_neg pins s σ H x v Q I rx ⟨_, hx.int, want c q repInt⟩
  · cases e
theorem oD_cmp {op : CmpOp} {p : Int → Int → Bool} (ho : OpR X (compareOp op) (rI0 fun i j => .bl (p i j))) : OpR X (compareOp op) (rD2 (cx X) (cmpD p)) := by
  intro pins s σ H x y v u Q I rx ry h
  obtain ⟨κ, S, dx, dy, z, c, hx, hy, e, q⟩ := h
  unfold cmpD at e
  split at e
  · cases e
    exact ho pins s σ H x y v u Q I rx ry ⟨_, _, hx.int, hy.int, want c q repBl⟩
  · cases e
theorem oD_lt : OpR X (compareOp .Lt) (rD2 (cx X) ltD) := oD_cmp op_lt
theorem oD_le : OpR X (compareOp .LtE) (rD2 (cx X) leD) := oD_cmp op_le
theorem oD_gt : OpR X (compareOp .Gt) (rD2 (cx X) gtD) := oD_cmp op_gt
theorem oD_ge : OpR X (compareOp .GtE) (rD2 (cx X) geD) := oD_cmp op_ge

/-! ### ==, !=, in, not in, is None -/
def eqD (a b : D) : Option D := match py a, py b with
  | some p, some r => if p.depth ≤ 100 then some (.bl (PyData.eqv p r)) else none
  | _, _ => none
def neD (a b : D) : Option D := match py a, py b with
  | some p, some r => if p.depth ≤ 100 then some (.bl (!PyData.eqv p r)) else none
  | _, _ => none
theorem depth_room {A : Around} {k : Nat} (hr : Room k A) {a b : Nat} (h : a ≤ 100) : A.units + 1 + min a b < cLine := by
  have := hr.un
  omega
theorem oD_eq {k : Nat} (hr : Room k X.A) : OpR X (compareOp .Eq) (rD2 (cx X) eqD) := by
  intro pins s σ H x y v u Q I rx ry h
  obtain ⟨κ, S, dx, dy, z, c, hx, hy, e, q⟩ := h
  unfold eqD at e
  split at e
  · rename_i p r e1 e2
    split at e
    · rename_i hd
      cases e
      obtain ⟨as, r1⟩ := Dp.reads I p x v (RepR.dp hx e1) rx
      obtain ⟨bs, r2⟩ := Dp.reads I r y u (RepR.dp hy e2) ry
      exact SeqAt.eq_plain r1 r2 (py_plain e1) (py_plain e2) (by have := depth_room hr (b := r.depth) hd; omega) ⟨.bl _, H, I, rfl, want c q repBl⟩
    · cases e
  · cases e
theorem oD_ne {k : Nat} (hr : Room k X.A) : OpR X (compareOp .NotEq) (rD2 (cx X) neD) := by
  intro pins s σ H x y v u Q I rx ry h
  obtain ⟨κ, S, dx, dy, z, c, hx, hy, e, q⟩ := h
  unfold neD at e
  split at e
  · rename_i p r e1 e2
    split at e
    · rename_i hd
      cases e
      obtain ⟨as, r1⟩ := Dp.reads I p x v (RepR.dp hx e1) rx
      obtain ⟨bs, r2⟩ := Dp.reads I r y u (RepR.dp hy e2) ry
      exact SeqAt.ne_plain r1 r2 (py_plain e1) (py_plain e2) (by have := depth_room hr (b := r.depth) hd; omega) ⟨.bl _, H, I, rfl, want c q repBl⟩
    · cases e
  · cases e
/-- x in c: c a list or tuple of data, or a text (then x is one sign or any text) -/
def inB (a : D) (b : D) : Option Bool := match py a, py b with
  | some p, some (.list ys) => if p.depth ≤ 100 then some (ys.any fun y => PyData.eqv y p) else none
  | some p, some (.tuple ys) => if p.depth ≤ 100 then some (ys.any fun y => PyData.eqv y p) else none
  | some (.str i), some (.str j) => some (!(Builtin.Str.occurrences j i 0 j.length 1).isEmpty)
  | _, _ => none
def inD (a b : D) : Option D := (inB a b).map .bl
def notInD (a b : D) : Option D := (inB a b).map fun k => .bl (!k)
theorem oD_in {k : Nat} (hr : Room k X.A) : OpR X (compareOp .In) (rD2 (cx X) inD) := by
  intro pins s σ H x y v u Q I rx ry h
  obtain ⟨κ, S, dx, dy, z, c, hx, hy, e, q⟩ := h
  unfold inD inB at e
  split at e
  · rename_i p ys e1 e2
    split at e
    · rename_i hd
      cases e
      obtain ⟨as, r1⟩ := Dp.reads I _ x v (RepR.dp hx e1) rx
      obtain ⟨bs, r2⟩ := Dp.reads I _ y u (RepR.dp hy e2) ry
      have hp := py_plain e2
      unfold PyData.plain at hp
      exact SeqAt.in_list_data r2 r1 hp (py_plain e1) (by rw [Nat.min_comm]; exact depth_room hr hd) ⟨.bl _, H, I, rfl, want c q repBl⟩
    · cases e
  · rename_i p ys e1 e2
    split at e
    · rename_i hd
      cases e
      obtain ⟨as, r1⟩ := Dp.reads I _ x v (RepR.dp hx e1) rx
      obtain ⟨bs, r2⟩ := Dp.reads I _ y u (RepR.dp hy e2) ry
      have hp := py_plain e2
      unfold PyData.plain at hp
      exact SeqAt.in_tuple_data r2 r1 hp (py_plain e1) (by rw [Nat.min_comm]; exact depth_room hr hd) ⟨.bl _, H, I, rfl, want c q repBl⟩
    · cases e
  · rename_i i j e1 e2
    cases e
    have d1 := RepR.dp hx e1
    have d2 := RepR.dp hy e2
    cases d1
    cases d2
    exact op_in_str pins s σ H _ _ v u Q I rx ry ⟨_, _, rfl, rfl, want c q repBl⟩
  · cases e
theorem oD_notIn {k : Nat} (hr : Room k X.A) : OpR X (compareOp .NotIn) (rD2 (cx X) notInD) := by
  intro pins s σ H x y v u Q I rx ry h
  obtain ⟨κ, S, dx, dy, z, c, hx, hy, e, q⟩ := h
  unfold notInD inB at e
  split at e
  · rename_i p ys e1 e2
    split at e
    · rename_i hd
      cases e
      obtain ⟨as, r1⟩ := Dp.reads I _ x v (RepR.dp hx e1) rx
      obtain ⟨bs, r2⟩ := Dp.reads I _ y u (RepR.dp hy e2) ry
      have hp := py_plain e2
      unfold PyData.plain at hp
      exact SeqAt.notIn_list_data r2 r1 hp (py_plain e1) (by rw [Nat.min_comm]; exact depth_room hr hd) ⟨.bl _, H, I, rfl, want c q repBl⟩
    · cases e
  · rename_i p ys e1 e2
    split at e
    · rename_i hd
      cases e
      obtain ⟨as, r1⟩ := Dp.reads I _ x v (RepR.dp hx e1) rx
      obtain ⟨bs, r2⟩ := Dp.reads I _ y u (RepR.dp hy e2) ry
      have hp := py_plain e2
      unfold PyData.plain at hp
      exact SeqAt.notIn_tuple_data r2 r1 hp (py_plain e1) (by rw [Nat.min_comm]; exact depth_room hr hd) ⟨.bl _, H, I, rfl, want c q repBl⟩
    · cases e
  · rename_i i j e1 e2
    cases e
    have d1 := RepR.dp hx e1
    have d2 := RepR.dp hy e2
    cases d1
    cases d2
    exact op_notin_str pins s σ H _ _ v u Q I rx ry ⟨_, _, rfl, rfl, want c q repBl⟩
  · cases e
def isNonB : D → Bool
  | .non => true
  | _ => false
def isNonD (a b : D) : Option D := match b with
  | .non => some (.bl (isNonB a))
  | _ => none
def notNonD (a b : D) : Option D := match b with
  | .non => some (.bl (!isNonB a))
  | _ => none
theorem RepR.isNon {C : Ctx} {κ : Ks} {H : Hp} {d : D} {v : V} (h : RepR C κ H d v) : isNonB d = decide (v = .non) := by
  cases d with
  | non => rw [Rep.non_iff.mp (show Rep C κ H .non v from h)]; rfl
  | bl b => rw [h.bl]; rfl
  | int b => rw [h.int]; rfl
  | str b => rw [h.str]; rfl
  | tup xs => obtain ⟨a, vs, e, _⟩ := h.tup; rw [e]; rfl
  | lst xs => obtain ⟨a, vs, e, _⟩ := h.lst; rw [e]; rfl
  | dct ks ds => obtain ⟨a, e, _⟩ := h; rw [e]; rfl
  | glo x => obtain ⟨a, _, e⟩ := Rep.glo_iff.mp (show Rep C κ H (.glo x) v from h); rw [e]; rfl
  | ty n => rw [Rep.ty_iff.mp (show Rep C κ H (.ty n) v from h)]; rfl
  | scr ns => obtain ⟨a, e, _⟩ := h.scr; rw [e]; rfl
theorem oD_isNon : OpR X (compareOp .Is) (rD2 (cx X) isNonD) := by
  intro pins s σ H x y v u Q I rx ry h
  obtain ⟨κ, S, dx, dy, z, c, hx, hy, e, q⟩ := h
  unfold isNonD at e
  split at e
  · cases e
    exact op_isN pins s σ H x y v u Q I rx ry ⟨Rep.non_iff.mp (show Rep (cx X) κ H .non y from hy), want c q (by rw [hx.isNon]; exact repBl)⟩
  · cases e
theorem oD_notNon : OpR X (compareOp .IsNot) (rD2 (cx X) notNonD) := by
  intro pins s σ H x y v u Q I rx ry h
  obtain ⟨κ, S, dx, dy, z, c, hx, hy, e, q⟩ := h
  unfold notNonD at e
  split at e
  · cases e
    exact op_notN pins s σ H x y v u Q I rx ry ⟨Rep.non_iff.mp (show Rep (cx X) κ H .non y from hy), want c q (by rw [hx.isNon]; exact repBl)⟩
  · cases e
end
end Dn

/-! Dn5: what is walked: lists, tuples, scripts, texts, ranges, enumerate, zip. -/
namespace Dn
open PySem PySem.Spec PyProof.Rows L2

/-! ### enumerate of a tuple -/
set_option maxHeartbeats 1000000 in
theorem meets_enum_new1 {v : Value} {o : Obj} {H : Heap → Prop} (B : Begins v o H) :
    Meets (Builtin.«enumerate.__new__» ⟨[.type "enumerate", v], []⟩) (fun _ R s => H s.heap ∧
      R (.ok (.ret (.ref (s.heap.push o).objs.size))) { s with heap := (s.heap.push o).push { cls := .type "enumerate", data := .fields #[.none, .bool false, .ref s.heap.objs.size, rawInt 0, .none, .none] } }) :=
  .of_wp fun prog w A R s h => by
    obtain ⟨hp, g, d, tk, os⟩ := s; obtain ⟨h1, h⟩ := h
    have hsub := sub_enumerate
    have q1 : ∀ {A' : Around} {E : Value → Shared → Prop} {Q : Value → Shared → Prop}, Q (.ref hp.objs.size) ⟨hp.push o, g, d, tk, os⟩ → wpAny (model prog w) A' (pyIter v) Q E ⟨hp, g, d, tk, os⟩ :=
      fun q => B.iter prog w _ _ ⟨hp, g, d, tk, os⟩ _ h1 q
    wp_walk using q1
    refine wpAny_stack_any fun st => wpAny_pure ?_
    split
    · rename_i c _ _ _ _ _
      cases (c == Value.type "enumerate")
      · wp_walk using q1
        exact ⟨_, rfl, h⟩
      · wp_walk using q1
        exact ⟨_, rfl, h⟩
    · wp_walk using q1
      exact ⟨_, rfl, h⟩
section
variable {prog : Program} {w : World} {A : Around} {E : Value → Shared → Prop} {s : Shared}
theorem enum_begins1 {v : Value} {o : Obj} {H : Heap → Prop} {Q : Value → Shared → Prop} (B : Begins v o H) (h1 : H s.heap)
    (h : ∀ h', IsEnum h' (s.heap.objs.size + 1) s.heap.objs.size 0 .none → h'.get? s.heap.objs.size = some o → h'.objs.size = s.heap.objs.size + 2 →
      (∀ b o, s.heap.get? b = some o → h'.get? b = some o) → Q (.ref (s.heap.objs.size + 1)) { s with heap := h' }) :
    wpAny (model prog w) A (call (.type "enumerate") [v]) Q E s := by
  refine callType_new F.called_enumerate (by decide) (F.typeCall_enumerate_1 _) (F.newCall_enumerate_1 _) (fun obj => F.args_object_init_2 obj _) F.entry_enumerate_new
    (meets_enum_new1 B) ⟨h1, ?_⟩
  have hz : (s.heap.push o).objs.size = s.heap.objs.size + 1 := Heap.size_push ..
  show _ ∧ _
  rw [hz]
  have he : IsEnum ((s.heap.push o).push { cls := .type "enumerate", data := .fields #[.none, .bool false, .ref s.heap.objs.size, rawInt 0, .none, .none] }) (s.heap.objs.size + 1) s.heap.objs.size 0 .none := by
    have := Heap.get?_push_size (s.heap.push o) (o := { cls := .type "enumerate", data := .fields #[.none, .bool false, .ref s.heap.objs.size, rawInt 0, .none, .none] }) rfl
    rw [hz] at this; exact this
  refine ⟨⟨_, he, rfl⟩, h _ he (Heap.get?_push_of_some _ (Heap.get?_push_size _ B.free)) (by rw [Heap.size_push, hz]) fun b o x => Heap.get?_push_of_some _ (Heap.get?_push_of_some _ x)⟩
end
/-- the tuple at a, each item in a new pair -/
def IteT (K : PySem.W.Frag) (a : Addr) : It :=
  ⟨fun i H => ∃ (xs : List V) (x : V), SqT K H a xs ∧ xs[i]? = some x, fun i H v H' => ∃ T x, v = .ref T ∧ H T = none ∧ H' = upd H T (.tup [.int (i : Nat), x]) ∧ ∀ xs, SqT K H a xs → xs[i]? = some x, fun i H => ∃ xs : List V, SqT K H a xs ∧ xs.length ≤ i⟩
theorem turn_enumT {P : Program} {w : World} {K : PySem.W.Frag} {elts : List Expr} {kk : Nat} {tpos : Pos} (a e it : Addr) (hai : a ≠ it) (hae : a ≠ e) :
    Turn P w K (.Tuple elts kk tpos) (IteT K a) [e, it] e (fun i h => (∃ old, IsEnum h e it ((i : Nat) : Int) old) ∧ h.IsTupleIter it a i ∧ e ≠ it) where
  mem := by simp
  obj := fun i h st b hb => by
    obtain ⟨⟨old, he⟩, ⟨o, ho, hc, hd⟩, _⟩ := st
    have e' : b = e ∨ b = it := by simpa using hb
    rcases e' with z | z
    · rw [z]; exact ⟨_, he, fun v q => nomatch q⟩
    · rw [z]; exact ⟨o, ho, fun v q => by rw [hd] at q; cases q⟩
  keep := fun i h h' st k => let ⟨⟨old, he⟩, hi, hne⟩ := st; ⟨⟨old, k e (by simp) _ he⟩, hi.at fun o q => k it (by simp) o q, hne⟩
  item := by
    intro X hP hw hK hc i pins s σ H E I hf st hg
    subst hP hw hK
    obtain ⟨⟨old, he⟩, hit, hne⟩ := st
    obtain ⟨xs, x, hq, hx⟩ := hg
    obtain ⟨its, rv, p, hz⟩ := I.tuple hq
    obtain ⟨u, hu, ru⟩ := rv.get hx
    have hel : e < s.heap.objs.size := Heap.lt_size he
    have hil : it < s.heap.objs.size := by obtain ⟨_, q, _⟩ := hit; exact Heap.lt_size q
    have hlt : i < its.toArray.size := by rw [List.size_toArray]; exact (List.getElem?_eq_some_iff.mp hu).1
    have D := Draws.tuple (prog := X.prog) (w := X.w) (A := X.A.in1) (I.ok.hd hc) it a hai its.toArray
    refine wpAny_pyNext_enum_itemC D he ⟨hit, p⟩ hlt hne (by simp [hne, Ne.symm hae]) fun x' h' tk hP ho hst' hT hsz hk => ?_
    have hxu : x' = u := by
      have h2 : its[i]? = some x' := by simpa using hP
      rw [hu] at h2
      exact (Option.some.inj h2).symm
    subst hxu
    have hit' := hst'.1
    refine ⟨_, rfl, wpAny_letOwnedTupleGo_enum (s := { s with heap := h', toks := tk + 1 }) ho fun h'' he' sb => ?_⟩
    have hT2 : h''.get? s.heap.objs.size = some { cls := .type "tuple", data := .seq #[.int i tk, x'] } := (sb.2 _ (Nat.ne_of_gt hel)).trans hT
    have new : ObjOk X.prog X.w (upd H s.heap.objs.size (.tup [.int (i : Nat), x])) h'' s.heap.objs.size (.tup [.int (i : Nat), x]) :=
      ⟨by show 2 ≤ sizeLine; decide, [.int i tk, x'], .cons ⟨_, rfl⟩ (.cons ru .nil), ⟨_, hT2, rfl, _, rfl⟩⟩
    have I1 : Inv X pins σ (upd H s.heap.objs.size (.tup [.int (i : Nat), x])) { s with heap := h'', toks := tk + 1 } :=
      I.turnedNew (ch := [e, it]) (fun b ob hb q => (sb.2 b (fun z => hb (by simp [z]))).trans (hk b ob (fun z => hb (by simp [z])) (fun z => hb (by simp [z])) q)) hf (Nat.le_refl _) new
    refine ⟨.ref s.heap.objs.size, _, I1, rfl, ⟨_, x, rfl, I.hok.fresh (Nat.le_refl _), rfl, fun ys hy => by rw [I.tuple_inj hy hq]; exact hx⟩, ⟨⟨x', ?_⟩, hit'.at fun o q => (sb.2 it (Ne.symm hne)).trans q, hne⟩, fun b hb => ?_⟩
    · have e1 : ((i + 1 : Nat) : Int) = (i : Int) + 1 := by omega
      rw [e1]; exact he'
    · have hb' : b < s.heap.objs.size := by
        have e' : b = e ∨ b = it := by simpa using hb
        rcases e' with z | z
        · rw [z]; exact hel
        · rw [z]; exact hil
      rw [upd_ne (Nat.ne_of_lt hb')]
      exact (hf b hb).1
  done := by
    intro X hP hw hK hc i pins s σ H E I hf st hg
    subst hP hw hK
    obtain ⟨⟨old, he⟩, hit, hne⟩ := st
    obtain ⟨xs, hq, hx⟩ := hg
    obtain ⟨its, rv, p, hz⟩ := I.tuple hq
    obtain ⟨f0, f1, f2, f3, f4, f5⟩ := hf it (by simp)
    have hl := rv.length
    have D : Draws X.prog X.w X.A.in1 it [it, a] i (fun _ _ => False) (fun k h => k = i ∧ h.IsTupleIter it a i ∧ h.IsTuple a its.toArray) := by
      have D0 := Draws.tuple (prog := X.prog) (w := X.w) (A := X.A.in1) (I.ok.hd hc) it a hai its.toArray
      exact ⟨fun k h st => D0.live i h st.2, fun k h h' st hk => ⟨st.1, D0.frame i h h' st.2 hk⟩, fun k s Q E hlt st => absurd st.1 (Nat.ne_of_lt hlt), fun s Q E st hE => wpAny_nextOf_tuple_end (I.ok.hd hc) st.2.1 st.2.2 (by simp; omega) hE⟩
    exact wpAny_pyNext_enum_endD D he ⟨rfl, hit, p⟩ fun h' eb => ⟨rfl, I.turned (t' := s.toks) (fun b o hb q => eb b o hb q) f0 f1 f3 f4 f5⟩
  self := fun A i s Q E st h => let ⟨⟨_, he⟩, _⟩ := st; wpAny_pyIter_enum he h
def iEnumA (K : PySem.W.Frag) (ta : TA) : TI := fun σ H R => ta σ H fun vs H1 => ∃ a xs, vs = [.ref a] ∧ ((SqL K H1 a xs ∧ R (Ite K a) H1) ∨ (SqT K H1 a xs ∧ R (IteT K a) H1))
theorem pi_enumA {X : Cx} {e : Expr} {ta : TA} {p pos tpos : Pos} {elts : List Expr} {kk : Nat} (hg : Gl X "enumerate") (hm : X.mg "enumerate" = none) (ha : PA X [e] ta) (hs : starEach [e] X.env = [(false, eval e X.env)] := by rfl) :
    PI X (.Tuple elts kk tpos) (.Call (.Name "enumerate" p) [e] [] pos) (iEnumA X.K ta) := by
  refine ⟨fun pins s σ H R I h => ?_⟩
  refine Call_ (ld_blt I hg hm boot_enumerate (PyProof.Rows.callWith_type1 (thn (ha.run pos pins s σ H _ I h) fun us s1 ⟨vs, H1, I1, r1, q1⟩ => ?_) hs rfl))
  obtain ⟨a, xs, ex, q1⟩ := q1
  subst ex
  cases r1 with
  | cons r rr =>
    cases rr
    cases r
    have fr : ∀ b ∈ [s1.heap.objs.size + 1, s1.heap.objs.size], FpOk X pins H1 b := fun b hb => by
      have e' : b = s1.heap.objs.size + 1 ∨ b = s1.heap.objs.size := by simpa using hb
      have hle : s1.heap.objs.size ≤ b := by
        rcases e' with z | z
        · rw [z]; exact Nat.le_add_right _ _
        · rw [z]; exact Nat.le_refl _
      exact I1.fpOk hle (I1.hok.fresh hle)
    rcases q1 with ⟨hq, q⟩ | ⟨hq, q⟩
    · obtain ⟨its, rv, p', hz⟩ := I1.list hq
      refine call_enumerate_list p'.isList fun h' he hit hsz hk => wpAny_pyIter_enum he ?_
      have I2 : Inv X pins σ H1 { s1 with heap := h' } := I1.kept (t' := s1.toks) hk
      exact ⟨s1.heap.objs.size + 1, [s1.heap.objs.size + 1, s1.heap.objs.size], _, _, H1, rfl, I2, turn_enum a (s1.heap.objs.size + 1) s1.heap.objs.size, ⟨⟨.none, he⟩, hit, Nat.succ_ne_self _⟩, fr, q⟩
    · obtain ⟨its, rv, p', hz⟩ := I1.tuple hq
      have p2 : s1.heap.IsTuple a its.toArray := p'
      obtain ⟨oa, hoa, _⟩ := id p'
      have la : a < s1.heap.objs.size := Heap.lt_size hoa
      refine enum_begins1 (begins_tuple a its.toArray) p2 fun h' he hit hsz hk => wpAny_pyIter_enum he ?_
      have I2 : Inv X pins σ H1 { s1 with heap := h' } := I1.kept (t' := s1.toks) hk
      exact ⟨s1.heap.objs.size + 1, [s1.heap.objs.size + 1, s1.heap.objs.size], _, _, H1, rfl, I2, turn_enumT a (s1.heap.objs.size + 1) s1.heap.objs.size (Nat.ne_of_lt la) (Nat.ne_of_lt (Nat.lt_succ_of_lt la)), ⟨⟨.none, he⟩, ⟨_, hit, rfl, rfl⟩, Nat.succ_ne_self _⟩, fr, q⟩

/-! ### a list, a tuple, a text -/
def iAny (K : PySem.W.Frag) (tl : TE) : TI := fun σ H R => tl σ H fun x H1 => (∃ a, x = .ref a ∧ (∃ xs, SqL K H1 a xs) ∧ R (Itl K a) H1) ∨ (∃ a, x = .ref a ∧ (∃ xs, SqT K H1 a xs) ∧ R (Itt K a) H1) ∨ (∃ z, x = .str z ∧ R (Its z) H1)
theorem pi_any {X : Cx} {tg l : Expr} {tl : TE} (hl : PE X l tl) : PI X tg l (iAny X.K tl) := by
  refine ⟨fun pins s σ H R I h => ?_⟩
  refine thn (hl.run pins s σ H _ I h) fun v s1 ⟨x, H1, I1, r1, q1⟩ => ?_
  rcases q1 with ⟨a, e, ⟨xs, hq⟩, q⟩ | ⟨a, e, ⟨xs, hq⟩, q⟩ | ⟨z, e, q⟩
  · subst e
    cases r1
    obtain ⟨its, rv, p, hz⟩ := I1.list hq
    refine wpAny_pyIter_list p.isList ?_
    refine ⟨s1.heap.objs.size, [s1.heap.objs.size], _, _, H1, rfl, I1.kept (t' := s1.toks) fun b o e => Heap.get?_push_of_some _ e, turn_list a _, ⟨_, Heap.get?_push_size _ rfl, rfl, rfl⟩, fun b hb => ?_, q⟩
    have e : b = s1.heap.objs.size := by simpa using hb
    subst e
    exact I1.fpOk (Nat.le_refl _) (I1.hok.fresh (Nat.le_refl _))
  · subst e
    cases r1
    obtain ⟨its, rv, p, hz⟩ := I1.tuple hq
    refine wpAny_pyIter_tuple (show s1.heap.IsTuple a its.toArray from p) ?_
    refine ⟨s1.heap.objs.size, [s1.heap.objs.size], _, _, H1, rfl, I1.kept (t' := s1.toks) fun b o e => Heap.get?_push_of_some _ e, turn_tuple a _, ⟨_, Heap.get?_push_size _ rfl, rfl, rfl⟩, fun b hb => ?_, q⟩
    have e : b = s1.heap.objs.size := by simpa using hb
    subst e
    exact I1.fpOk (Nat.le_refl _) (I1.hok.fresh (Nat.le_refl _))
  · subst e
    obtain ⟨t, rfl⟩ := r1
    cases ha : z.cps.all (· < 128)
    · exact wpAny_pyIter_wide ha (pi_one (tk := s1.toks) I1 _ (turn_str _ z t "str_iterator" (.inr rfl)) ⟨_, Heap.get?_push_size _ rfl, rfl, rfl⟩ q)
    · exact wpAny_pyIter_ascii ha (pi_one (tk := s1.toks) I1 _ (turn_str _ z t "str_ascii_iterator" (.inl rfl)) ⟨_, Heap.get?_push_size _ rfl, rfl, rfl⟩ q)

/-! ### the walks by plain data -/
def chars (x : Str) : List D := x.cps.toList.map fun c => .str ⟨#[c]⟩
/-- the items of a value -/
def itemsD : D → Option (List D)
  | .lst xs => some xs
  | .tup xs => some xs
  | .scr ns => some (ns.map D.int)
  | .str x => some (chars x)
  | _ => none
def guardOf (v : Val) (xs : List D) : List (Nat × List D) := match v with
  | .d _ => []
  | .cell n => [(n, xs)]
def wOf (v : Val) : M Walk := fun S => match rd v S with
  | some x => match itemsD x with
    | some xs => .ok ⟨xs, guardOf v xs⟩ S
    | none => .bad
  | none => .bad
def dIter (f : Env' → M Val) : Env' → M Walk := fun ρ => M.bind (f ρ) wOf
def isSq : D → Bool
  | .lst _ => true
  | .scr _ => true
  | _ => false
def isTp : D → Bool
  | .tup _ => true
  | _ => false
/-- a value's items are at its address in the heap, as long as its cell is not changed -/
theorem seq_cases {C : Ctx} {κ : Ks} {H : Hp} {S : Store} {v : Val} {u : V} {x : D} {xs : List D} (c : Cells C κ H S) (r : RepV C κ H v u) (e : rd v S = some x) (ei : itemsD x = some xs) :
    (∃ a, (u = .ref a ∧ isSq x = true) ∧ (∃ ys, SqL C.K H a ys ∧ RepL C κ H xs ys) ∧ ∀ κ2 H2 S2, Grow κ H κ2 H2 → Cells C κ2 H2 S2 → (∀ p ∈ guardOf v xs, S2[p.1]? = some (.lst p.2)) → ∃ vs, SqL C.K H2 a vs ∧ RepL C κ2 H2 xs vs) ∨
    (∃ a, (u = .ref a ∧ isTp x = true) ∧ (∃ ys, SqT C.K H a ys ∧ RepL C κ H xs ys) ∧ ∀ κ2 H2 S2, Grow κ H κ2 H2 → Cells C κ2 H2 S2 → (∀ p ∈ guardOf v xs, S2[p.1]? = some (.lst p.2)) → ∃ vs, SqT C.K H2 a vs ∧ RepL C κ2 H2 xs vs) ∨ (∃ z, (u = .str z ∧ x = .str z) ∧ xs = chars z) := by
  cases v with
  | d y =>
    cases e
    have r1 : Rep C κ H x u := r
    cases x with
    | lst ys =>
      cases ei
      obtain ⟨a, vs', e1, e2', _, e3'⟩ := Rep.lst_iff.mp r1
      refine .inl ⟨a, ⟨e1, rfl⟩, ⟨vs', .inl (.inl e2'), e3'⟩, fun κ2 H2 S2 g _ _ => ?_⟩
      obtain ⟨a', vs, e1', e2, _, e3⟩ := Rep.lst_iff.mp (Rep.grow g r1)
      rw [e1] at e1'; cases e1'
      exact ⟨vs, .inl (.inl e2), e3⟩
    | tup ys =>
      cases ei
      obtain ⟨a, vs', e1, e2', e3'⟩ := Rep.tup_iff.mp r1
      refine .inr (.inl ⟨a, ⟨e1, rfl⟩, ⟨vs', .of e2', e3'⟩, fun κ2 H2 S2 g _ _ => ?_⟩)
      obtain ⟨a', vs, e1', e2, e3⟩ := Rep.tup_iff.mp (Rep.grow g r1)
      rw [e1] at e1'; cases e1'
      exact ⟨vs, .of e2, e3⟩
    | scr ns =>
      cases ei
      obtain ⟨a, e1, e2'⟩ := Rep.scr_iff.mp r1
      refine .inl ⟨a, ⟨e1, rfl⟩, ⟨_, e2'.seq, RepL.of_ints ns⟩, fun κ2 H2 S2 g _ _ => ?_⟩
      obtain ⟨a', e1', e2⟩ := Rep.scr_iff.mp (Rep.grow g r1)
      rw [e1] at e1'; cases e1'
      exact ⟨_, e2.seq, RepL.of_ints ns⟩
    | str z =>
      cases ei
      exact .inr (.inr ⟨z, ⟨Rep.str_iff.mp r1, rfl⟩, rfl⟩)
    | _ => cases ei
  | cell n =>
    obtain ⟨a, h1, h2⟩ := r
    unfold rd at e
    cases q : S[n]? with
    | none => simp [q] at e
    | some y =>
      have k1 := c.ok n y a q h1
      cases y with
      | lst ys =>
        simp [q] at e; subst e
        cases ei
        obtain ⟨vs', z', r'⟩ := k1
        refine .inl ⟨a, ⟨h2, rfl⟩, ⟨vs', .inl (.inl z'), r'⟩, fun κ2 H2 S2 g c2 lv => ?_⟩
        obtain ⟨vs, z, r⟩ := c2.ok n _ a (lv (n, xs) (by simp [guardOf])) (g.get h1)
        exact ⟨vs, .inl (.inl z), r⟩
      | dct ks ds =>
        simp [q] at e; subst e
        cases ei
      | ins _ _ => simp [q] at e
      | fzd _ _ => simp [q] at e
theorem wd_list {C : Ctx} {κ : Ks} {H : Hp} {a : Addr} {xs : List D} {gd : List (Nat × List D)} (h : ∀ κ2 H2 S2, Grow κ H κ2 H2 → Cells C κ2 H2 S2 → (∀ p ∈ gd, S2[p.1]? = some (.lst p.2)) → ∃ vs, SqL C.K H2 a vs ∧ RepL C κ2 H2 xs vs) : WalkD C κ H (Itl C.K a) ⟨xs, gd⟩ where
  go := fun i κ2 H2 S2 hi g c lv => by
    obtain ⟨vs, hs, r⟩ := h κ2 H2 S2 g c lv
    obtain ⟨v, e, _⟩ := r.get (List.getElem?_eq_getElem hi)
    exact ⟨vs, v, hs, e⟩
  yld := fun i κ2 H2 S2 x H3 d e g c lv y => by
    obtain ⟨vs, hs, r⟩ := h κ2 H2 S2 g c lv
    obtain ⟨eH, y⟩ := y
    subst eH
    obtain ⟨v, e', rv⟩ := r.get e
    rw [y vs hs] at e'
    cases e'
    exact ⟨.refl _ _, c, rv⟩
  stop := fun κ2 H2 S2 g c lv => by
    obtain ⟨vs, hs, r⟩ := h κ2 H2 S2 g c lv
    exact ⟨vs, hs, by rw [r.length]; exact Nat.le_refl _⟩
theorem wd_tup {C : Ctx} {κ : Ks} {H : Hp} {a : Addr} {xs : List D} {gd : List (Nat × List D)} (h : ∀ κ2 H2 S2, Grow κ H κ2 H2 → Cells C κ2 H2 S2 → (∀ p ∈ gd, S2[p.1]? = some (.lst p.2)) → ∃ vs, SqT C.K H2 a vs ∧ RepL C κ2 H2 xs vs) : WalkD C κ H (Itt C.K a) ⟨xs, gd⟩ where
  go := fun i κ2 H2 S2 hi g c lv => by
    obtain ⟨vs, hs, r⟩ := h κ2 H2 S2 g c lv
    obtain ⟨v, e, _⟩ := r.get (List.getElem?_eq_getElem hi)
    exact ⟨vs, v, hs, e⟩
  yld := fun i κ2 H2 S2 x H3 d e g c lv y => by
    obtain ⟨vs, hs, r⟩ := h κ2 H2 S2 g c lv
    obtain ⟨eH, y⟩ := y
    subst eH
    obtain ⟨v, e', rv⟩ := r.get e
    rw [y vs hs] at e'
    cases e'
    exact ⟨.refl _ _, c, rv⟩
  stop := fun κ2 H2 S2 g c lv => by
    obtain ⟨vs, hs, r⟩ := h κ2 H2 S2 g c lv
    exact ⟨vs, hs, by rw [r.length]; exact Nat.le_refl _⟩
theorem wd_str {C : Ctx} {κ : Ks} {H : Hp} {z : Str} {gd : List (Nat × List D)} : WalkD C κ H (Its z) ⟨chars z, gd⟩ where
  go := fun i κ2 H2 S2 hi g c lv => by
    have hi : i < (chars z).length := hi
    rw [chars, List.length_map, Array.length_toList] at hi
    exact hi
  yld := fun i κ2 H2 S2 x H3 d e g c lv y => by
    obtain ⟨eH, ch, e1, e2⟩ := y
    subst eH e2
    have e : (chars z)[i]? = some d := e
    rw [chars, List.getElem?_map, Array.getElem?_toList, e1] at e
    cases e
    exact ⟨.refl _ _, c, repStr⟩
  stop := fun κ2 H2 S2 g c lv => by
    show z.cps.size ≤ (chars z).length
    rw [chars, List.length_map, Array.length_toList]
    exact Nat.le_refl _
section
variable {X : Cx} {W : WX} {pos : Pos} {tg e e2 : Expr} {f : Env' → M Val} {g : Env' → M (List Val)}
theorem di_val (h : DE X W e f) : DI X W tg e (dIter f) := pi_imp (pi_any h) fun σ H R h => by
  obtain ⟨κ, ρ, S, s, p⟩ := h
  obtain ⟨k1, r1, s1, sm, q⟩ := EvI.bind (rel1 := relV (cx X)) s p
  refine ⟨k1, r1, s1, sm, q.mono ?_⟩
  rintro u H1 ⟨κ1, S1, v, g1, sm1, rx, p1⟩
  unfold wOf at p1
  split at p1
  · rename_i x ex
    split at p1
    · rename_i xs exs
      rcases seq_cases sm1.cells rx ex exs with ⟨a, ⟨e1, t1⟩, ⟨ys, l1, _⟩, h⟩ | ⟨a, ⟨e1, t1⟩, ⟨ys, l1, _⟩, h⟩ | ⟨z, ⟨e1, t1⟩, e2⟩
      · exact .inl ⟨a, e1, ⟨ys, l1⟩, p1 _ κ1 H1 (.refl _ _) sm1.cells (wd_list h)⟩
      · exact .inr (.inl ⟨a, e1, ⟨ys, l1⟩, p1 _ κ1 H1 (.refl _ _) sm1.cells (wd_tup h)⟩)
      · subst e1 e2
        exact .inr (.inr ⟨z, rfl, p1 _ κ1 H1 (.refl _ _) sm1.cells wd_str⟩)
    · exact p1.elim
  · exact p1.elim
/-- one value of a list of arguments -/
def arg1 (vs : List Val) : M Val := fun S => match vs with
  | [v] => .ok v S
  | _ => .bad
def pairsD (xs : List D) : List D := (List.range xs.length).zipWith (fun i x => .tup [.int (i : Nat), x]) xs
theorem pairsD_get {xs : List D} {i : Nat} {d : D} (e : (pairsD xs)[i]? = some d) : ∃ x, xs[i]? = some x ∧ d = .tup [.int (i : Nat), x] := by
  unfold pairsD at e
  rw [List.getElem?_zipWith] at e
  have hi : i < xs.length := by
    by_cases h : i < xs.length
    · exact h
    · rw [List.getElem?_eq_none (show xs.length ≤ i by omega)] at e
      cases q : (List.range xs.length)[i]? <;> simp [q] at e
  rw [List.getElem?_range hi, List.getElem?_eq_getElem hi] at e
  exact ⟨xs[i], List.getElem?_eq_getElem hi, by cases e; rfl⟩
theorem pairsD_length (xs : List D) : (pairsD xs).length = xs.length := by simp [pairsD]
def enW (v : Val) : M Walk := fun S => match rd v S with
  | some x => match itemsD x with
    | some xs => match x with
      | .str _ => .bad
      | _ => .ok ⟨pairsD xs, guardOf v xs⟩ S
    | none => .bad
  | none => .bad
def dEnum (g : Env' → M (List Val)) : Env' → M Walk := fun ρ => M.bind (g ρ) fun vs => M.bind (arg1 vs) enW
theorem wd_enum {C : Ctx} {κ : Ks} {H : Hp} {a : Addr} {xs : List D} {gd : List (Nat × List D)} {SQ : Hp → Addr → List V → Prop} {J : It} (hJ : J = ⟨fun i H => ∃ (xs : List V) (x : V), SQ H a xs ∧ xs[i]? = some x, fun i H v H' => ∃ T x, v = .ref T ∧ H T = none ∧ H' = upd H T (.tup [.int (i : Nat), x]) ∧ ∀ xs, SQ H a xs → xs[i]? = some x, fun i H => ∃ xs : List V, SQ H a xs ∧ xs.length ≤ i⟩)
    (h : ∀ κ2 H2 S2, Grow κ H κ2 H2 → Cells C κ2 H2 S2 → (∀ p ∈ gd, S2[p.1]? = some (.lst p.2)) → ∃ vs, SQ H2 a vs ∧ RepL C κ2 H2 xs vs) : WalkD C κ H J ⟨pairsD xs, gd⟩ where
  go := fun i κ2 H2 S2 hi g c lv => by
    subst hJ
    obtain ⟨vs, hs, r⟩ := h κ2 H2 S2 g c lv
    have hi : i < (pairsD xs).length := hi
    rw [pairsD_length] at hi
    obtain ⟨v, e, _⟩ := r.get (List.getElem?_eq_getElem hi)
    exact ⟨vs, v, hs, e⟩
  yld := fun i κ2 H2 S2 x H3 d e g c lv y => by
    subst hJ
    obtain ⟨vs, hs, r⟩ := h κ2 H2 S2 g c lv
    obtain ⟨T, v, rfl, hT, rfl, y⟩ := y
    obtain ⟨d', e1, rfl⟩ := pairsD_get (show (pairsD xs)[i]? = some d from e)
    obtain ⟨v', e', rv⟩ := r.get e1
    rw [y vs hs] at e'
    cases e'
    exact ⟨.laid hT, c.laid hT, Rep.tup_iff.mpr ⟨T, _, rfl, upd_same, .cons repInt (.cons (rv.grow (.laid hT)) .nil)⟩⟩
  stop := fun κ2 H2 S2 g c lv => by
    subst hJ
    obtain ⟨vs, hs, r⟩ := h κ2 H2 S2 g c lv
    exact ⟨vs, hs, by rw [r.length]; show _ ≤ (pairsD xs).length; rw [pairsD_length]; exact Nat.le_refl _⟩
theorem di_enum {p tpos : Pos} {elts : List Expr} {kk : Nat} (hg : Gl X "enumerate") (hm : X.mg "enumerate" = none) (ha : DA X W [e] g) (hs : starEach [e] X.env = [(false, eval e X.env)] := by rfl) :
    DI X W (.Tuple elts kk tpos) (.Call (.Name "enumerate" p) [e] [] pos) (dEnum g) := pi_imp (pi_enumA hg hm ha hs) fun σ H R h => by
  obtain ⟨κ, ρ, S, s, p⟩ := h
  obtain ⟨k1, r1, s1, sm, q⟩ := EvI.bind (rel1 := relVs (cx X)) s p
  refine ⟨k1, r1, s1, sm, q.mono ?_⟩
  rintro us H1 ⟨κ1, S1, vs, g1, sm1, rx, p1⟩
  match vs, rx, p1 with
  | [v], ⟨u, r0, e0, ru, rnil⟩, p1 =>
    rw [show r0 = [] from rnil] at e0
    subst e0
    have p1 : PostI (cx X) κ1 H1 (enW v S1) R _ := p1
    unfold enW at p1
    split at p1
    · rename_i x ex
      split at p1
      · rename_i xs exs
        split at p1
        · exact p1.elim
        · rename_i hns
          rcases seq_cases sm1.cells ru ex exs with ⟨a, ⟨e1, t1⟩, ⟨ys, l1, _⟩, h⟩ | ⟨a, ⟨e1, t1⟩, ⟨ys, l1, _⟩, h⟩ | ⟨z, ⟨e1, t1⟩, e2⟩
          · subst e1
            exact ⟨a, ys, rfl, .inl ⟨l1, p1 _ κ1 H1 (.refl _ _) sm1.cells (wd_enum rfl h)⟩⟩
          · subst e1
            exact ⟨a, ys, rfl, .inr ⟨l1, p1 _ κ1 H1 (.refl _ _) sm1.cells (wd_enum rfl h)⟩⟩
          · exact (hns z t1).elim
      · exact p1.elim
    · exact p1.elim
def zipD (xs ys : List D) : List D := xs.zipWith (fun x y => .tup [x, y]) ys
def ziW (v w : Val) : M Walk := fun S => match rd v S, rd w S with
  | some x, some y => match itemsD x, itemsD y with
    | some xs, some ys => if (isSq x && isSq y) || (isTp x && isTp y) then .ok ⟨zipD xs ys, guardOf v xs ++ guardOf w ys⟩ S else .bad
    | _, _ => .bad
  | _, _ => .bad
def arg2 {α : Type} (vs : List Val) (k : Val → Val → M α) : M α := fun S => match vs with
  | [v, w] => k v w S
  | _ => .bad
def dZip (g : Env' → M (List Val)) : Env' → M Walk := fun ρ => M.bind (g ρ) fun vs => arg2 vs ziW
theorem zipD_get {xs ys : List D} {i : Nat} {d : D} (e : (zipD xs ys)[i]? = some d) : ∃ x y, xs[i]? = some x ∧ ys[i]? = some y ∧ d = .tup [x, y] := by
  unfold zipD at e
  rw [List.getElem?_zipWith] at e
  cases q : xs[i]? with
  | none => simp [q] at e
  | some x =>
    cases q2 : ys[i]? with
    | none => simp [q, q2] at e
    | some y => simp [q, q2] at e; exact ⟨x, y, rfl, rfl, e.symm⟩
theorem wd_zip {C : Ctx} {κ : Ks} {H : Hp} {a b : Addr} {xs ys : List D} {gd gd2 : List (Nat × List D)} {SQ : Hp → Addr → List V → Prop} {J : It} (hJ : J = ⟨fun i H => ∃ (xs ys : List V) (x y : V), SQ H a xs ∧ SQ H b ys ∧ xs[i]? = some x ∧ ys[i]? = some y,
    fun i H v H' => ∃ T x y, v = .ref T ∧ H T = none ∧ H' = upd H T (.tup [x, y]) ∧ (∀ xs, SQ H a xs → xs[i]? = some x) ∧ ∀ ys, SQ H b ys → ys[i]? = some y,
    fun i H => ∃ xs ys : List V, SQ H a xs ∧ SQ H b ys ∧ (xs.length ≤ i ∨ ys.length ≤ i)⟩)
    (h : ∀ κ2 H2 S2, Grow κ H κ2 H2 → Cells C κ2 H2 S2 → (∀ p ∈ gd, S2[p.1]? = some (.lst p.2)) → ∃ vs, SQ H2 a vs ∧ RepL C κ2 H2 xs vs)
    (h2 : ∀ κ2 H2 S2, Grow κ H κ2 H2 → Cells C κ2 H2 S2 → (∀ p ∈ gd2, S2[p.1]? = some (.lst p.2)) → ∃ vs, SQ H2 b vs ∧ RepL C κ2 H2 ys vs) : WalkD C κ H J ⟨zipD xs ys, gd ++ gd2⟩ where
  go := fun i κ2 H2 S2 hi g c lv => by
    subst hJ
    obtain ⟨vs, hs, r⟩ := h κ2 H2 S2 g c fun p m => lv p (List.mem_append_left _ m)
    obtain ⟨us, hu, r'⟩ := h2 κ2 H2 S2 g c fun p m => lv p (List.mem_append_right _ m)
    obtain ⟨x, y, e1, e2, _⟩ := zipD_get (List.getElem?_eq_getElem (show i < (zipD xs ys).length from hi))
    obtain ⟨v, e, _⟩ := r.get e1
    obtain ⟨v', e', _⟩ := r'.get e2
    exact ⟨vs, us, v, v', hs, hu, e, e'⟩
  yld := fun i κ2 H2 S2 x H3 d e g c lv y => by
    subst hJ
    obtain ⟨vs, hs, r⟩ := h κ2 H2 S2 g c fun p m => lv p (List.mem_append_left _ m)
    obtain ⟨us, hu, r'⟩ := h2 κ2 H2 S2 g c fun p m => lv p (List.mem_append_right _ m)
    obtain ⟨T, v, v', rfl, hT, rfl, y1, y2⟩ := y
    obtain ⟨d1, d2, e1, e2, rfl⟩ := zipD_get (show (zipD xs ys)[i]? = some d from e)
    obtain ⟨v1, q1, rv⟩ := r.get e1
    obtain ⟨v2, q2, rv'⟩ := r'.get e2
    rw [y1 vs hs] at q1
    cases q1
    rw [y2 us hu] at q2
    cases q2
    exact ⟨.laid hT, c.laid hT, Rep.tup_iff.mpr ⟨T, _, rfl, upd_same, .cons (rv.grow (.laid hT)) (.cons (rv'.grow (.laid hT)) .nil)⟩⟩
  stop := fun κ2 H2 S2 g c lv => by
    subst hJ
    obtain ⟨vs, hs, r⟩ := h κ2 H2 S2 g c fun p m => lv p (List.mem_append_left _ m)
    obtain ⟨us, hu, r'⟩ := h2 κ2 H2 S2 g c fun p m => lv p (List.mem_append_right _ m)
    refine ⟨vs, us, hs, hu, ?_⟩
    show vs.length ≤ (zipD xs ys).length ∨ us.length ≤ (zipD xs ys).length
    unfold zipD
    rw [List.length_zipWith, r.length, r'.length]
    omega
theorem sq_tp {x : D} (h : isSq x = true) : isTp x = false := by cases x <;> first | rfl | cases h
theorem tp_sq {x : D} (h : isTp x = true) : isSq x = false := by cases x <;> first | rfl | cases h
theorem zip_kinds {x y : D} (h : (isSq x && isSq y || isTp x && isTp y) = true) (n : ((isSq x && isSq y || isTp x && isTp y) = false)) : False := by rw [n] at h; cases h
theorem di_zip {p tpos : Pos} {elts : List Expr} {kk : Nat} (hg : Gl X "zip") (hm : X.mg "zip" = none) (ha : DA X W [e, e2] g)
    (hs : starEach [e, e2] X.env = (false, eval e X.env) :: starEach [e2] X.env := by rfl) (hpl : (backTo pos (starEach [e2] X.env)).any (·.1) = false := by rfl) :
    DI X W (.Tuple elts kk tpos) (.Call (.Name "zip" p) [e, e2] [] pos) (dZip g) := pi_imp (RZ.pi_zipA hg hm ha hs hpl) fun σ H R h => by
  obtain ⟨κ, ρ, S, s, p⟩ := h
  obtain ⟨k1, r1, s1, sm, q⟩ := EvI.bind (rel1 := relVs (cx X)) s p
  refine ⟨k1, r1, s1, sm, q.mono ?_⟩
  rintro us H1 ⟨κ1, S1, vs, g1, sm1, rx, p1⟩
  match vs, rx, p1 with
  | [v, w], ⟨u, r0, e0, ru, u2, r2, e2', ru2, rnil⟩, p1 =>
    rw [show r2 = [] from rnil] at e2'
    subst e2' e0
    have p1 : PostI (cx X) κ1 H1 (ziW v w S1) R _ := p1
    unfold ziW at p1
    split at p1
    · rename_i x y ex ey
      split at p1
      · rename_i xs ys exs eys
        split at p1
        · rename_i hb
          have R1 := rd_rep sm1.cells ru ex
          have R2 := rd_rep sm1.cells ru2 ey
          rcases seq_cases sm1.cells ru ex exs with ⟨a, ⟨e1, t1⟩, ⟨zs, l1, _⟩, h⟩ | ⟨a, ⟨e1, t1⟩, ⟨zs, l1, _⟩, h⟩ | ⟨z, ⟨e1, t1⟩, e2⟩
          · rcases seq_cases sm1.cells ru2 ey eys with ⟨b, ⟨e1', t2⟩, ⟨zs', l1', _⟩, h'⟩ | ⟨b, ⟨e1', t2⟩, ⟨zs', l1', _⟩, h'⟩ | ⟨z, ⟨e1', t2⟩, e2⟩
            · subst e1 e1'
              exact ⟨a, b, zs, zs', rfl, .inl ⟨l1, l1', p1 _ κ1 H1 (.refl _ _) sm1.cells (wd_zip rfl h h')⟩⟩
            · exact (zip_kinds hb (by rw [sq_tp t1, tp_sq t2, Bool.and_false, Bool.false_and]; rfl)).elim
            · exact (zip_kinds hb (by rw [sq_tp t1, t2, Bool.false_and, Bool.or_false]; exact Bool.and_false _)).elim
          · rcases seq_cases sm1.cells ru2 ey eys with ⟨b, ⟨e1', t2⟩, ⟨zs', l1', _⟩, h'⟩ | ⟨b, ⟨e1', t2⟩, ⟨zs', l1', _⟩, h'⟩ | ⟨z, ⟨e1', t2⟩, e2⟩
            · exact (zip_kinds hb (by rw [tp_sq t1, sq_tp t2, Bool.and_false, Bool.false_and]; rfl)).elim
            · subst e1 e1'
              exact ⟨a, b, zs, zs', rfl, .inr ⟨l1, l1', p1 _ κ1 H1 (.refl _ _) sm1.cells (wd_zip rfl h h')⟩⟩
            · exact (zip_kinds hb (by rw [tp_sq t1, t2, Bool.false_and, Bool.false_or]; exact Bool.and_false _)).elim
          · exact (zip_kinds hb (by rw [t1]; rfl)).elim
        · exact p1.elim
      · exact p1.elim
    · exact p1.elim
end
end Dn

/-! Dn6: ranges, targets, subscripts, slices, built-in calls. -/
namespace Dn
open PySem PySem.Spec PyProof.Rows L2

/-! ### ranges -/
def rngD (lo : Int) (n : Nat) : List D := (List.range n).map fun i : Nat => .int (lo + i)
theorem wd_rng {C : Ctx} {κ : Ks} {H : Hp} {lo : Int} {n : Nat} : WalkD C κ H (Itr lo n) ⟨rngD lo n, []⟩ where
  go := fun i κ2 H2 S2 hi g c lv => by
    have hi : i < (rngD lo n).length := hi
    rw [rngD, List.length_map, List.length_range] at hi
    exact hi
  yld := fun i κ2 H2 S2 x H3 d e g c lv y => by
    obtain ⟨eH, y⟩ := y
    subst eH y
    have e : (rngD lo n)[i]? = some d := e
    rw [rngD, List.getElem?_map] at e
    obtain ⟨j, e1, e2⟩ := Option.map_eq_some_iff.mp e
    have hj := (List.getElem?_eq_some_iff.mp e1).1
    rw [List.length_range] at hj
    rw [List.getElem?_range hj] at e1
    cases e1
    subst e2
    exact ⟨.refl _ _, c, repInt⟩
  stop := fun κ2 H2 S2 g c lv => by
    show n ≤ (rngD lo n).length
    rw [rngD, List.length_map, List.length_range]
    exact Nat.le_refl _
def small62 (i : Int) : Bool := decide (-(2 ^ 62) ≤ i ∧ i < 2 ^ 62)
def rngW (vs : List Val) : M Walk := fun S => match vs with
  | [.d (.int j)] => if small62 j then .ok ⟨rngD 0 j.toNat, []⟩ S else .bad
  | [.d (.int i), .d (.int j)] => if small62 i && small62 j then .ok ⟨rngD i (j - i).toNat, []⟩ S else .bad
  | _ => .bad
def dRng (g : Env' → M (List Val)) : Env' → M Walk := fun ρ => M.bind (g ρ) rngW
section
variable {X : Cx} {W : WX} {pos : Pos} {tg a b : Expr} {g : Env' → M (List Val)}
theorem di_range1 {p : Pos} (hg : Gl X "range") (hm : X.mg "range" = none) (ha : DA X W [a] g) (hn : LenA g 1) (hs : starEach [a] X.env = [(false, eval a X.env)] := by rfl) : DI X W tg (.Call (.Name "range" p) [a] [] pos) (dRng g) :=
  pi_imp (pi_range1 hg hm ha hs) fun σ H R h => by
  obtain ⟨κ, ρ, S, s, p⟩ := h
  refine ⟨κ, ρ, S, s, ?_⟩
  unfold dRng M.bind at p
  cases q : g ρ S with
  | bad => rw [q] at p; exact p
  | exc e S' => rw [q] at p; exact p
  | ok vs S' =>
    rw [q] at p
    have hl := hn ρ S vs S' q
    intro us κ1 H1 g1 c1 r1
    have p : PostI (cx X) κ H (rngW vs S') R _ := p
    unfold rngW at p
    split at p
    · split at p
      · rename_i j hj
        obtain ⟨v, r0, e0, rv, rn⟩ := r1
        rw [show r0 = [] from rn] at e0
        subst e0
        have hj := of_decide_eq_true hj
        rw [Rep.int_iff.mp (show Rep (cx X) κ1 H1 (.int _) v from rv)]
        exact ⟨_, rfl, hj.1, hj.2, p _ κ1 H1 g1 c1 wd_rng⟩
      · exact p.elim
    · exact absurd hl (by simp)
    · exact p.elim
theorem di_range2 {p : Pos} (hg : Gl X "range") (hm : X.mg "range" = none) (ha : DA X W [a, b] g) (hn : LenA g 2) (hs : starEach [a, b] X.env = [(false, eval a X.env), (false, eval b X.env)] := by rfl) (hs2 : starEach [b] X.env = [(false, eval b X.env)] := by rfl) : DI X W tg (.Call (.Name "range" p) [a, b] [] pos) (dRng g) :=
  pi_imp (pi_range2 hg hm ha hs hs2) fun σ H R h => by
  obtain ⟨κ, ρ, S, s, p⟩ := h
  refine ⟨κ, ρ, S, s, ?_⟩
  unfold dRng M.bind at p
  cases q : g ρ S with
  | bad => rw [q] at p; exact p
  | exc e S' => rw [q] at p; exact p
  | ok vs S' =>
    rw [q] at p
    have hl := hn ρ S vs S' q
    intro us κ1 H1 g1 c1 r1
    have p : PostI (cx X) κ H (rngW vs S') R _ := p
    unfold rngW at p
    split at p
    · exact absurd hl (by simp)
    · split at p
      · rename_i i j hj
        rw [Bool.and_eq_true] at hj
        obtain ⟨v, r0, e0, rv, v2, r2, e2, rv2, rn⟩ := r1
        rw [show r2 = [] from rn] at e2
        subst e2 e0
        have h1 := of_decide_eq_true hj.1
        have h2 := of_decide_eq_true hj.2
        rw [Rep.int_iff.mp (show Rep (cx X) κ1 H1 (.int _) v from rv), Rep.int_iff.mp (show Rep (cx X) κ1 H1 (.int _) v2 from rv2)]
        exact ⟨_, _, rfl, ⟨h1.1, h1.2, h2.1, h2.2⟩, p _ κ1 H1 g1 c1 wd_rng⟩
      · exact p.elim
    · exact p.elim
end

/-! ### targets that are tuples -/
abbrev TBs := List D → Env' → Option Env'
def bNil : TBs := fun ds ρ => match ds with
  | [] => some ρ
  | _ => none
def bCons (b : TB) (c : TBs) : TBs := fun ds ρ => match ds with
  | d :: r => (b d ρ).bind (c r)
  | [] => none
def bTup (n : Nat) (c : TBs) : TB := fun d ρ => match d with
  | .tup xs => if xs.length = n then c xs ρ else none
  | _ => none
structure DGs (X : Cx) (es : List Expr) (vs : List Nat) (b : TBs) (g : TGs) : Prop where
  pg : PGs X es g
  go : ∀ κ H σ ρ S ds us ρ' (Q : L2.St → Hp → Prop), Sim (cx X) κ H σ ρ S → RepL (cx X) κ H ds us → b ds ρ = some ρ' →
    (∀ σ', OnlyAt vs σ σ' → Sim (cx X) κ H σ' ρ' S → Q σ' H) → g us σ H Q
theorem OnlyAt.sub {vs ws : List Nat} {σ σ' : L2.St} (h : OnlyAt vs σ σ') (k : ∀ i ∈ vs, i ∈ ws) : OnlyAt ws σ σ' := ⟨h.1, fun j n => h.2 j fun m => n (k j m)⟩
section
variable {X : Cx} {pos : Pos} {e : Expr} {es : List Expr} {vs ws : List Nat} {b : TB} {c : TBs} {g : TG} {u : TGs}
theorem dgs_nil : DGs X [] [] bNil gNil := ⟨pgs_nil, fun κ H σ ρ S ds us ρ' Q s r e h => by
  unfold bNil at e
  split at e
  · cases e
    exact ⟨r.nil_inv, h σ (.refl _ _) s⟩
  · cases e⟩
theorem dgs_cons (h1 : DG X e vs b g) (h2 : DGs X es ws c u) (hs : (assignEach (e :: es) X.env).map (·.2) = assign e X.env :: (assignEach es X.env).map (·.2) := by rfl) : DGs X (e :: es) (vs ++ ws) (bCons b c) (gCons g u) :=
  ⟨pgs_cons h1.pg h2.pg hs, fun κ H σ ρ S ds us ρ' Q s r e h => by
  unfold bCons at e
  split at e
  · rename_i d ds'
    obtain ⟨ρ1, e1, e2⟩ := Option.bind_eq_some_iff.mp e
    obtain ⟨v, r', q, rv, rr⟩ := r.cons_inv
    refine ⟨v, r', q, h1.go κ H σ ρ S d v ρ1 _ s rv e1 fun σ1 o1 s1 => h2.go κ H σ1 ρ1 S ds' r' ρ' _ s1 rr e2 fun σ2 o2 s2 => h σ2 ?_ s2⟩
    exact (o1.sub fun i m => List.mem_append_left _ m).trans (o2.sub fun i m => List.mem_append_right _ m)
  · cases e⟩
theorem dg_tup {k n : Nat} (hc : X.calm = true) (h : DGs X es vs c u) (hn : (assignEach es X.env).length = n := by rfl) (hst : (assignEach es X.env).findIdx? (·.1) = none := by rfl) : DG X (.Tuple es k pos) vs (bTup n c) (gTup X.K n u) :=
  ⟨pg_tup hc h.pg hn hst, fun κ H σ ρ S d v ρ' Q s r e hq => by
  unfold bTup at e
  split at e
  · split at e
    · rename_i xs hl
      obtain ⟨a, us, e1, e2, e3⟩ := Rep.tup_iff.mp r
      exact ⟨a, us, e1, .of e2, by rw [e3.length]; exact hl, h.go κ H σ ρ S xs us ρ' Q s e3 e hq⟩
    · cases e
  · cases e⟩
end
/-- target = value -/
def sAsg (b : TB) (f : Env' → M Val) : SD := fun ρ S => (f ρ S).st ρ fun v ρ' S' => match v with
  | .d d => match b d ρ' with
    | some ρ'' => .next ρ'' S'
    | none => .bad
  | .cell _ => .bad
section
variable {X : Cx} {W : WX} {pos : Pos} {tg e : Expr} {vs : List Nat} {b : TB} {g : TG} {f : Env' → M Val}
theorem ds_asgT (he : DE X W e f) (hg : DG X tg vs b g) (hs : swapsWithSole [tg] e pos.line X.env = pure false := by rfl) (hw : swappedStores [tg] e X.env = pure none := by rfl)
    (h1 : (assignEach [tg] X.env).map (·.2) = [assign tg X.env] := by rfl) : DS X W (.Assign [tg] e pos) (sAsg b f) := ps_imp (ps_asg he hg.pg hs hw h1) fun D σ H h => by
  obtain ⟨κ, ρ, S, s, p⟩ := h
  obtain ⟨k1, r1, s1, sm, q⟩ := evS_bind (rel := relV (cx X)) s p
  refine ⟨k1, r1, s1, sm, q.mono ?_⟩
  rintro x H1 ⟨κ1, S1, a, g1, sm1, r, p1⟩
  cases a with
  | cell n => exact p1.elim
  | d d =>
    have p1 : PostS (cx X) κ1 H1 (match b d ρ with | some ρ'' => .next ρ'' S1 | none => .bad) D W := p1
    split at p1
    · rename_i ρ'' eb
      exact hg.go κ1 H1 σ ρ S1 d x ρ'' _ sm1 r eb fun σ' o s' => p1 σ' κ1 H1 (.refl _ _) s'
    · exact p1.elim
end

/-! ### the places of a list -/
theorem RepL.atI {C : Ctx} {κ : Ks} {H : Hp} {ds : List D} {vs : List V} {i : Int} {d : D} (h : RepL C κ H ds vs) (e : L2.atI ds i = some d) : ∃ v, L2.atI vs i = some v ∧ Rep C κ H d v := by
  unfold L2.atI at e ⊢
  obtain ⟨j, e1, e2⟩ := Option.bind_eq_some_iff.mp e
  obtain ⟨v, e3, r⟩ := h.get e2
  exact ⟨v, by rw [h.length, e1]; exact e3, r⟩
def idxD : D → D → Option D
  | .tup xs, .int i => L2.atI xs i
  | .lst xs, .int i => L2.atI xs i
  | .scr ns, .int i => (L2.atI ns i).map .int
  | .str x, .int i => if x.length ≤ 1000000 then (L2.atI x.cps.toList i).map fun c => .str ⟨#[c]⟩ else none
  | _, _ => none
section
variable {X : Cx}
theorem ix_D : IxR X (rD2 (cx X) idxD) := by
  intro value slice pins s σ H x y v u Q I rx ry h hs
  obtain ⟨κ, S, dx, dy, z, c, hx, hy, e, q⟩ := h
  unfold idxD at e
  split at e
  · obtain ⟨a, vs, ea, sa, ra⟩ := hx.tup
    obtain ⟨w, e1, rw'⟩ := ra.atI e
    exact ix_tup value slice pins s σ H x y v u Q I rx ry ⟨a, vs, _, w, ea, hy.int, .of sa, e1, want c q rw'⟩ hs
  · obtain ⟨a, vs, ea, sa, ra⟩ := hx.lst
    obtain ⟨w, e1, rw'⟩ := ra.atI e
    exact ix_list value slice pins s σ H x y v u Q I rx ry ⟨a, vs, _, w, ea, hy.int, .inl (.inl sa), e1, want c q rw'⟩ hs
  · rename_i ns i
    obtain ⟨n, e1, e2⟩ := Option.map_eq_some_iff.mp e
    subst e2
    obtain ⟨a, ea, sa⟩ := hx.scr
    have e3 : L2.atI (ns.map V.int) i = some (V.int n) := by
      unfold L2.atI at e1 ⊢
      obtain ⟨j, k1, k2⟩ := Option.bind_eq_some_iff.mp e1
      rw [List.length_map, k1]
      show (ns.map V.int)[j]? = _
      rw [List.getElem?_map, k2]; rfl
    exact ix_list value slice pins s σ H x y v u Q I rx ry ⟨a, _, _, _, ea, hy.int, sa.seq, e3, want c q repInt⟩ hs
  · split at e
    · rename_i hz
      obtain ⟨n, e1, e2⟩ := Option.map_eq_some_iff.mp e
      subst e2
      exact ix_str value slice pins s σ H x y v u Q I rx ry ⟨_, _, n, hx.str, hy.int, mil_line hz, e1, want c q repStr⟩ hs
    · cases e
  · cases e
theorem de_ix {W : WX} {a b : Expr} {pos : Pos} {fa fb : Env' → M Val} (ha : DE X W a fa) (hb : DE X W b fb) (hs : PlainIx b := by intro _ _; rfl) : DE X W (.Subscript a b pos) (dOp2 idxD fa fb) := pe_imp (pe_ix ix_D ha hb hs) fun _ _ _ h => ev_op2 h
end

/-! ### slices -/
abbrev DO (X : Cx) (W : WX) (e : Option Expr) (f : Env' → M (Option Int)) : Prop := PO X e (Ev (cx X) relEq W f)
def dNoPart : Env' → M (Option Int) := fun _ => M.pure none
def asInt (v : Val) : M (Option Int) := fun S => match v with
  | .d (.int i) => .ok (some i) S
  | _ => .bad
def dPart (f : Env' → M Val) : Env' → M (Option Int) := fun ρ => M.bind (f ρ) asInt
def cutD {α : Type} (xs : List α) (lo hi : Option Int) : List α := (xs.drop (HT.sIx xs.length 0 lo)).take (HT.sIx xs.length xs.length hi - HT.sIx xs.length 0 lo)
theorem cutD_all {α : Type} {xs : List α} {lo hi : Option Int} (h : HT.sIx xs.length 0 lo = 0 ∧ HT.sIx xs.length xs.length hi = xs.length) : cutD xs lo hi = xs := by
  unfold cutD; rw [h.1, h.2]; simp
theorem RepL.cut {C : Ctx} {κ : Ks} {H : Hp} {ds : List D} {vs : List V} {lo hi : Option Int} (h : RepL C κ H ds vs) : RepL C κ H (cutD ds lo hi) (cutV vs lo hi) := by
  unfold cutD cutV; rw [h.length]; exact (h.drop _).take _
def slD (lo hi : Option Int) : D → Option D
  | .tup xs => some (.tup (cutD xs lo hi))
  | .lst xs => some (.lst (cutD xs lo hi))
  | .scr ns => some (.lst ((cutD ns lo hi).map .int))
  | .str x => if x.length ≤ 1000000 then some (.str (cutS x lo hi)) else none
  | _ => none
def rSlD (C : Ctx) : V → Option Int → Option Int → Hp → VK → Prop := fun x lo hi H Q => ∃ κ S dx z, Cells C κ H S ∧ RepR C κ H dx x ∧ slD lo hi dx = some z ∧
  ∀ v H', Grow κ H κ H' → Cells C κ H' S → Rep C κ H' z v → Q v H'
theorem RepL.cutInts {C : Ctx} {κ : Ks} {H : Hp} {ns : List Int} {lo hi : Option Int} : RepL C κ H ((cutD ns lo hi).map D.int) (cutV (ns.map V.int) lo hi) := by
  have := (RepL.of_ints (C := C) (κ := κ) (H := H) ns).cut (lo := lo) (hi := hi)
  have e : cutD (ns.map D.int) lo hi = (cutD ns lo hi).map D.int := by unfold cutD; rw [List.length_map, List.map_take, List.map_drop]
  rw [e] at this
  exact this
section
variable {X : Cx} {W : WX} {pos p2 : Pos} {e : Expr} {lo hi : Option Expr} {fe : Env' → M Val} {fl fh : Env' → M (Option Int)}
theorem do_none : DO X W none dNoPart := ⟨fun pins s σ H Q I h => po_none.run pins s σ H Q I (by
  obtain ⟨κ, ρ, S, sm, p⟩ := h
  exact PostG.ok (a := none) (b := none) p sm.cells rfl)⟩
theorem do_some (h : DE X W e fe) : DO X W (some e) (dPart fe) := ⟨fun pins s σ H Q I hw => (po_some h).run pins s σ H Q I (by
  obtain ⟨κ, ρ, S, s, p⟩ := hw
  obtain ⟨k1, r1, s1, sm, q⟩ := Ev.bind (rel1 := relV (cx X)) s p
  refine ⟨k1, r1, s1, sm, q.mono ?_⟩
  rintro x H1 ⟨κ1, S1, a, g1, sm1, rx, p1⟩
  unfold asInt at p1
  split at p1
  · rename_i i
    exact ⟨i, Rep.int_iff.mp (show Rep (cx X) κ1 H1 (.int i) x from rx), PostG.ok (a := some i) (b := some i) p1 sm1.cells rfl⟩
  · exact p1.elim)⟩
theorem sl_D : SlR X (rSlD (cx X)) := by
  intro pins s σ H x v vl vu lo hi sl Q I rx hs pl pu h
  obtain ⟨κ, S, dx, z, c, hx, e, q⟩ := h
  unfold slD at e
  split at e
  · rename_i xs
    cases e
    obtain ⟨a, vs, ea, sa, ra⟩ := hx.tup
    refine sl_tupA pins s σ H x v vl vu lo hi sl Q I rx hs pl pu ⟨a, vs, ea, .of sa, fun hw => ?_, fun _ p hp => wantT c q ra.cut hp⟩
    rw [ra.length] at hw
    rw [cutD_all hw] at q
    exact want c q (Rep.tup_iff.mpr ⟨a, vs, rfl, sa, ra⟩)
  · cases e
    obtain ⟨a, vs, ea, sa, ra⟩ := hx.lst
    exact sl_list pins s σ H x v vl vu lo hi sl Q I rx hs pl pu ⟨a, vs, ea, .inl (.inl sa), fun p hp => wantL c q ra.cut hp⟩
  · cases e
    obtain ⟨a, ea, sa⟩ := hx.scr
    exact sl_list pins s σ H x v vl vu lo hi sl Q I rx hs pl pu ⟨a, _, ea, sa.seq, fun p hp => wantL c q RepL.cutInts hp⟩
  · split at e
    · rename_i hz
      cases e
      exact sl_str pins s σ H x v vl vu lo hi sl Q I rx hs pl pu ⟨_, hx.str, mil_line hz, want c q repStr⟩
    · cases e
  · cases e
def opSl (a : Val) (lo hi : Option Int) : M Val := op1 (slD lo hi) a
def dSl (fe : Env' → M Val) (fl fh : Env' → M (Option Int)) : Env' → M Val := fun ρ => M.bind (fe ρ) fun a => M.bind (fl ρ) fun l => M.bind (fh ρ) fun u => opSl a l u
theorem de_slice (he : DE X W e fe) (hl : DO X W lo fl) (hu : DO X W hi fh) : DE X W (.Subscript e (.Slice lo hi none p2) pos) (dSl fe fl fh) := pe_imp (pe_slice sl_D he hl hu) fun σ H Q h => by
  obtain ⟨κ, ρ, S, s, p⟩ := h
  obtain ⟨k1, r1, s1, sm, q⟩ := Ev.bind (rel1 := relV (cx X)) s p
  refine ⟨k1, r1, s1, sm, q.mono ?_⟩
  rintro x H1 ⟨κ1, S1, a, g1, sm1, rx, p1⟩
  obtain ⟨k2, r2, s2, sm2, q2⟩ := Ev.bind (rel1 := relEq) sm1 p1
  refine ⟨k2, r2, s2, sm2, q2.mono ?_⟩
  rintro l H2 ⟨κ2, S2, l', g2, sm2, rfl, p2⟩
  obtain ⟨k3, r3, s3, sm3, q3⟩ := Ev.bind (rel1 := relEq) sm2 p2
  refine ⟨k3, r3, s3, sm3, q3.mono ?_⟩
  rintro u H3 ⟨κ3, S3, u', g3, sm3, rfl, p3⟩
  unfold opSl op1 at p3
  split at p3
  · rename_i dx e1
    split at p3
    · rename_i z e3
      exact ⟨κ3, S3, dx, z, sm3.cells, rd_rep sm3.cells (rx.grow (g2.trans g3)) e1, e3, fun v H' g1 c1 r => p3 v κ3 H' g1 c1 r⟩
    · exact p3.elim
  · exact p3.elim
end

/-! ### built-in calls -/
def rds (vs : List Val) (S : Store) : Option (List D) := match vs with
  | [] => some []
  | v :: r => match rd v S, rds r S with
    | some x, some xs => some (x :: xs)
    | _, _ => none
def RepRs (C : Ctx) (κ : Ks) (H : Hp) : List D → List V → Prop
  | [], us => us = []
  | d :: ds, us => ∃ u r, us = u :: r ∧ RepR C κ H d u ∧ RepRs C κ H ds r
theorem rds_rep {C : Ctx} {κ : Ks} {H : Hp} {S : Store} (c : Cells C κ H S) : ∀ {vs : List Val} {us : List V} {ds : List D}, RepVs C κ H vs us → rds vs S = some ds → RepRs C κ H ds us
  | [], _, _, r, e => by cases e; exact r
  | v :: vs, _, _, ⟨u, r, e1, r1, r2⟩, e => by
    unfold rds at e
    split at e
    · rename_i x xs ex exs
      cases e
      exact ⟨u, r, e1, rd_rep c r1 ex, rds_rep c r2 exs⟩
    · cases e
def rDc (C : Ctx) (g : List D → Option D) : List V → Hp → VK → Prop := fun xs H Q => ∃ κ S ds z, Cells C κ H S ∧ RepRs C κ H ds xs ∧ g ds = some z ∧
  ∀ v H', Grow κ H κ H' → Cells C κ H' S → Rep C κ H' z v → Q v H'
/-- .. whose result is a new list -/
def rDn (C : Ctx) (g : List D → Option (List D)) : List V → Hp → VK → Prop := fun xs H Q => ∃ κ S ds zs, Cells C κ H S ∧ RepRs C κ H ds xs ∧ g ds = some zs ∧
  ∀ p vs, H p = none → RepL C κ H zs vs → Q (.ref p) (upd H p (.lst vs))
def opc (g : List D → Option D) (vs : List Val) : M Val := fun S => match rds vs S with
  | some ds => match g ds with
    | some z => .ok (.d z) S
    | none => .bad
  | none => .bad
def opn (g : List D → Option (List D)) (vs : List Val) : M (List D) := fun S => match rds vs S with
  | some ds => match g ds with
    | some z => .ok z S
    | none => .bad
  | none => .bad
def dCallB (g : List D → Option D) (fa : Env' → M (List Val)) : Env' → M Val := fun ρ => M.bind (fa ρ) (opc g)
def nCallB (g : List D → Option (List D)) (fa : Env' → M (List Val)) : Env' → M (List D) := fun ρ => M.bind (fa ρ) (opn g)
section
variable {X : Cx} {W : WX} {x : Str} {p pos : Pos} {e : Expr} {es : List Expr} {id T : String} {g : List D → Option D} {gn : List D → Option (List D)} {fa : Env' → M (List Val)}
theorem ev_callB {C : Ctx} {σ : L2.St} {H : Hp} {Q : VK} (h : Ev C (relV C) W (dCallB g fa) σ H Q) : tCB (rDc C g) (Ev C (relVs C) W fa) σ H Q := by
  obtain ⟨κ, ρ, S, s, p⟩ := h
  obtain ⟨k1, r1, s1, sm, q⟩ := Ev.bind (rel1 := relVs C) s p
  refine ⟨k1, r1, s1, sm, q.mono ?_⟩
  rintro us H1 ⟨κ1, S1, vs, g1, sm1, rx, p1⟩
  unfold opc at p1
  split at p1
  · rename_i ds e1
    split at p1
    · rename_i z e2
      exact ⟨κ1, S1, ds, z, sm1.cells, rds_rep sm1.cells rx e1, e2, fun v H' g1 c1 r => p1 v κ1 H' g1 c1 r⟩
    · exact p1.elim
  · exact p1.elim
theorem ev_callN {C : Ctx} {σ : L2.St} {H : Hp} {Q : VK} (h : EvN C W (nCallB gn fa) σ H Q) : tCB (rDn C gn) (Ev C (relVs C) W fa) σ H Q := by
  obtain ⟨κ, ρ, S, s, p⟩ := h
  obtain ⟨k1, r1, s1, sm, q⟩ := EvN.bind (rel1 := relVs C) s p
  refine ⟨k1, r1, s1, sm, q.mono ?_⟩
  rintro us H1 ⟨κ1, S1, vs, g1, sm1, rx, p1⟩
  unfold opn at p1
  split at p1
  · rename_i ds e1
    split at p1
    · rename_i zs e2
      exact ⟨κ1, S1, ds, zs, sm1.cells, rds_rep sm1.cells rx e1, e2, fun p vs hp r => postN_laid (.refl _ _) sm1.cells r hp p1⟩
    · exact p1.elim
  · exact p1.elim
theorem de_callB (hc : CallR X (.builtin id) (rDc (cx X) g)) (hg : Gl X x) (hm : X.mg x = none) (hv : bootBuiltins x = some (.builtin id)) (ha : DA X W (e :: es) fa) (hn : x ≠ "__name__" := by decide) (hdb : (x == ("__debug__" : Str)) = false := by decide)
    (he : starEach (e :: es) X.env = (false, eval e X.env) :: starEach es X.env := by rfl) (hpl : (backTo pos (starEach es X.env)).any (·.1) = false := by rfl) : DE X W (.Call (.Name x p) (e :: es) [] pos) (dCallB g fa) :=
  pe_imp (pe_callB hc hg hm hv ha hn hdb he hpl) fun _ _ _ h => ev_callB h
theorem de_callTy (hc : CallR X (.type T) (rDc (cx X) g)) (hg : Gl X x) (hm : X.mg x = none) (hv : bootBuiltins x = some (.type T)) (ha : DA X W (e :: es) fa) (hn : x ≠ "__name__" := by decide) (hdb : (x == ("__debug__" : Str)) = false := by decide)
    (he : starEach (e :: es) X.env = (false, eval e X.env) :: starEach es X.env := by rfl) (hpl : (backTo pos (starEach es X.env)).any (·.1) = false := by rfl) : DE X W (.Call (.Name x p) (e :: es) [] pos) (dCallB g fa) :=
  pe_imp (pe_callTy hc hg hm hv ha hn hdb he hpl) fun _ _ _ h => ev_callB h
theorem dn_callB (hc : CallR X (.builtin id) (rDn (cx X) gn)) (hg : Gl X x) (hm : X.mg x = none) (hv : bootBuiltins x = some (.builtin id)) (ha : DA X W (e :: es) fa) (hn : x ≠ "__name__" := by decide) (hdb : (x == ("__debug__" : Str)) = false := by decide)
    (he : starEach (e :: es) X.env = (false, eval e X.env) :: starEach es X.env := by rfl) (hpl : (backTo pos (starEach es X.env)).any (·.1) = false := by rfl) : DN X W (.Call (.Name x p) (e :: es) [] pos) (nCallB gn fa) :=
  pe_imp (pe_callB hc hg hm hv ha hn hdb he hpl) fun _ _ _ h => ev_callN h
theorem dn_callTy (hc : CallR X (.type T) (rDn (cx X) gn)) (hg : Gl X x) (hm : X.mg x = none) (hv : bootBuiltins x = some (.type T)) (ha : DA X W (e :: es) fa) (hn : x ≠ "__name__" := by decide) (hdb : (x == ("__debug__" : Str)) = false := by decide)
    (he : starEach (e :: es) X.env = (false, eval e X.env) :: starEach es X.env := by rfl) (hpl : (backTo pos (starEach es X.env)).any (·.1) = false := by rfl) : DN X W (.Call (.Name x p) (e :: es) [] pos) (nCallB gn fa) :=
  pe_imp (pe_callTy hc hg hm hv ha hn hdb he hpl) fun _ _ _ h => ev_callN h
end
theorem RepRs.one {C : Ctx} {κ : Ks} {H : Hp} {d : D} {us : List V} (h : RepRs C κ H [d] us) : ∃ u, us = [u] ∧ RepR C κ H d u := by
  obtain ⟨u, r, e, h1, h2⟩ := h
  rw [show r = [] from h2] at e
  exact ⟨u, e, h1⟩
theorem RepRs.two {C : Ctx} {κ : Ks} {H : Hp} {d d2 : D} {us : List V} (h : RepRs C κ H [d, d2] us) : ∃ u u2, us = [u, u2] ∧ RepR C κ H d u ∧ RepR C κ H d2 u2 := by
  obtain ⟨u, r, e, h1, u2, r2, e2, h2, h3⟩ := h
  rw [show r2 = [] from h3] at e2
  subst e2
  exact ⟨u, u2, e, h1, h2⟩
def intsD : List D → Option (List Int)
  | [] => some []
  | .int i :: r => (intsD r).map (i :: ·)
  | _ :: _ => none
theorem intsD_eq : ∀ {xs : List D} {ns : List Int}, intsD xs = some ns → xs = ns.map .int
  | [], _, e => by cases e; rfl
  | .int i :: r, _, e => by
    unfold intsD at e
    obtain ⟨ms, e1, e2⟩ := Option.map_eq_some_iff.mp e
    subst e2
    rw [intsD_eq e1]; rfl
  | .non :: _, _, e => by cases e
  | .bl _ :: _, _, e => by cases e
  | .str _ :: _, _, e => by cases e
  | .tup _ :: _, _, e => by cases e
  | .lst _ :: _, _, e => by cases e
  | .dct _ _ :: _, _, e => by cases e
  | .glo _ :: _, _, e => by cases e
  | .ty _ :: _, _, e => by cases e
  | .scr _ :: _, _, e => by cases e
@[simp] theorem intsD_map (ns : List Int) : intsD (ns.map .int) = some ns := by
  induction ns with
  | nil => rfl
  | cons n ns ih => rw [List.map_cons]; unfold intsD; rw [ih]; rfl
def blsD : List D → Option (List Bool)
  | [] => some []
  | .bl i :: r => (blsD r).map (i :: ·)
  | _ :: _ => none
theorem blsD_eq : ∀ {xs : List D} {ns : List Bool}, blsD xs = some ns → xs = ns.map .bl
  | [], _, e => by cases e; rfl
  | .bl i :: r, _, e => by
    unfold blsD at e
    obtain ⟨ms, e1, e2⟩ := Option.map_eq_some_iff.mp e
    subst e2
    rw [blsD_eq e1]; rfl
  | .non :: _, _, e => by cases e
  | .int _ :: _, _, e => by cases e
  | .str _ :: _, _, e => by cases e
  | .tup _ :: _, _, e => by cases e
  | .lst _ :: _, _, e => by cases e
  | .dct _ _ :: _, _, e => by cases e
  | .glo _ :: _, _, e => by cases e
  | .ty _ :: _, _, e => by cases e
  | .scr _ :: _, _, e => by cases e
@[simp] theorem blsD_map (ns : List Bool) : blsD (ns.map .bl) = some ns := by
  induction ns with
  | nil => rfl
  | cons n ns ih => rw [List.map_cons]; unfold blsD; rw [ih]; rfl
theorem RepL.bls {C : Ctx} {κ : Ks} {H : Hp} : ∀ (ns : List Bool) {vs : List V}, RepL C κ H (ns.map D.bl) vs → vs = ns.map V.bl
  | [], _, h => h.nil_inv
  | n :: ns, _, h => by
    obtain ⟨v, r, q, h1, h2⟩ := h.cons_inv
    unfold Rep at h1
    rw [q, h1, RepL.bls ns h2]
    rfl
/-- the items of a list or tuple -/
def seqD : D → Option (List D)
  | .lst xs => some xs
  | .tup xs => some xs
  | .scr ns => some (ns.map D.int)
  | _ => none
/-- a list or tuple, by values -/
theorem seq_at {C : Ctx} {κ : Ks} {H : Hp} {d : D} {u : V} {xs : List D} (r : RepR C κ H d u) (e : seqD d = some xs) :
    ∃ a vs, u = .ref a ∧ RepL C κ H xs vs ∧ ((isSq d = true ∧ SqL C.K H a vs) ∨ (isTp d = true ∧ SqT C.K H a vs)) := by
  cases d with
  | lst ys => cases e; obtain ⟨a, vs, e1, e2, e3⟩ := r.lst; exact ⟨a, vs, e1, e3, .inl ⟨rfl, .inl (.inl e2)⟩⟩
  | tup ys => cases e; obtain ⟨a, vs, e1, e2, e3⟩ := r.tup; exact ⟨a, vs, e1, e3, .inr ⟨rfl, .of e2⟩⟩
  | scr ms => cases e; obtain ⟨a, e1, e2⟩ := r.scr; exact ⟨a, _, e1, RepL.of_ints ms, .inl ⟨rfl, e2.seq⟩⟩
  | _ => cases e
theorem seq_atT {C : Ctx} {κ : Ks} {H : Hp} {d : D} {u : V} {xs : List D} (r : RepR C κ H d u) (e : seqD d = some xs) :
    ∃ a vs, u = .ref a ∧ RepL C κ H xs vs ∧ ((isSq d = true ∧ SqL C.K H a vs) ∨ (isTp d = true ∧ H a = some (.tup vs))) := by
  cases d with
  | lst ys => cases e; obtain ⟨a, vs, e1, e2, e3⟩ := r.lst; exact ⟨a, vs, e1, e3, .inl ⟨rfl, .inl (.inl e2)⟩⟩
  | tup ys => cases e; obtain ⟨a, vs, e1, e2, e3⟩ := r.tup; exact ⟨a, vs, e1, e3, .inr ⟨rfl, e2⟩⟩
  | scr ms => cases e; obtain ⟨a, e1, e2⟩ := r.scr; exact ⟨a, _, e1, RepL.of_ints ms, .inl ⟨rfl, e2.seq⟩⟩
  | _ => cases e
theorem ints_at {C : Ctx} {κ : Ks} {H : Hp} {d : D} {u : V} {xs : List D} {ns : List Int} (r : RepR C κ H d u) (e : seqD d = some xs) (ei : intsD xs = some ns) :
    ∃ a, u = .ref a ∧ ((isSq d = true ∧ SqL C.K H a (ns.map V.int)) ∨ (isTp d = true ∧ SqT C.K H a (ns.map V.int))) := by
  obtain ⟨a, vs, e1, e2, e3⟩ := seq_at r e
  rw [intsD_eq ei] at e2
  rw [e2.ints] at e3
  exact ⟨a, e1, e3⟩
/-! len -/
def lenD : List D → Option D
  | [.str x] => if x.length ≤ 1000000 then some (.int x.length) else none
  | [x] => (seqD x).map fun xs => .int xs.length
  | _ => none
/-! abs, int -/
def absD : List D → Option D
  | [.int i] => some (.int (if i < 0 then -i else i))
  | _ => none
def intD : List D → Option D
  | [.int i] => some (.int i)
  | [.bl k] => some (.int (if k then 1 else 0))
  | _ => none
def divmodD : List D → Option D
  | [.int i, .int j] => if 0 < j ∧ j < 1073741824 then some (.tup [.int (i / j), .int (i % j)]) else none
  | _ => none
/-! tuple, list -/
def tupleD : List D → Option D
  | [x] => (seqD x).map .tup
  | _ => none
def listN : List D → Option (List D)
  | [x] => seqD x
  | _ => none
/-! isinstance -/
def isiB : D → String → Option Bool
  | .glo _, _ => none
  | .ty _, _ => none
  | .int _, n => if n = "int" then some true else if n = "bool" ∨ n = "tuple" ∨ n = "list" ∨ n = "str" ∨ n = "dict" then some false else none
  | .bl _, n => if n = "int" ∨ n = "bool" then some true else if n = "tuple" ∨ n = "list" ∨ n = "str" ∨ n = "dict" then some false else none
  | .non, n => if n = "int" ∨ n = "bool" ∨ n = "tuple" ∨ n = "list" ∨ n = "str" ∨ n = "dict" then some false else none
  | .str _, n => if n = "str" then some true else if n = "int" ∨ n = "bool" ∨ n = "tuple" ∨ n = "list" ∨ n = "dict" then some false else none
  | .tup _, n => if n = "tuple" then some true else if n = "int" ∨ n = "bool" ∨ n = "str" ∨ n = "list" ∨ n = "dict" then some false else none
  | .lst _, n => if n = "list" then some true else if n = "int" ∨ n = "bool" ∨ n = "str" ∨ n = "tuple" ∨ n = "dict" then some false else none
  | .scr _, n => if n = "list" then some true else if n = "int" ∨ n = "bool" ∨ n = "str" ∨ n = "tuple" ∨ n = "dict" then some false else none
  | .dct _ _, n => if n = "dict" then some true else if n = "int" ∨ n = "bool" ∨ n = "str" ∨ n = "tuple" ∨ n = "list" then some false else none
def isiD : List D → Option D
  | [x, .ty n] => (isiB x n).map .bl
  | _ => none
def tyN : D → String
  | .int _ => "int"
  | .bl _ => "bool"
  | .non => "NoneType"
  | .str _ => "str"
  | .tup _ => "tuple"
  | .lst _ => "list"
  | .scr _ => "list"
  | .dct _ _ => "dict"
  | _ => ""
theorem tyX {C : Ctx} {κ : Ks} {H : Hp} {d : D} {u : V} {n : String} {b : Bool} (r : RepR C κ H d u) (e : isiB d n = some b) : TyX C.K H u (.type (tyN d)) := by
  cases d with
  | int i => rw [r.int]; exact .base (.int i)
  | bl i => rw [r.bl]; exact .base (.bl i)
  | non => rw [Rep.non_iff.mp (show Rep C κ H .non u from r)]; exact .base .non
  | str x => rw [r.str]; exact .base (.str x)
  | tup xs =>
    obtain ⟨a, vs, e1, h, _⟩ := r.tup
    subst e1
    exact .base (.tup h)
  | lst xs => obtain ⟨a, vs, e1, h, _⟩ := r.lst; subst e1; exact .base (.lst h)
  | scr ns =>
    obtain ⟨a, e1, h⟩ := r.scr
    subst e1
    rcases h with ⟨o, h⟩ | ⟨o, its, n, h1, h2, _⟩
    · exact .base (.frz h)
    · exact .kList h1 h2
  | dct ks ds =>
    obtain ⟨a, e1, h⟩ := r
    subst e1
    rcases h with ⟨kvs, h, _⟩ | ⟨kvs, h, _⟩
    · exact .base (.dK h)
    · exact .base (.dT h)
  | glo _ => cases e
  | ty _ => cases e
theorem isi_kit {d : D} {n : String} {b : Bool} (e : isiB d n = some b) : kitB (tyN d) n = some b := by
  cases d <;> simp only [isiB, tyN] at e ⊢ <;> first
    | (cases e; done)
    | (split at e
       · rename_i h
         cases e
         first
           | (subst h; decide +kernel)
           | (rcases h with h | h <;> (subst h; decide +kernel))
           | (rcases h with h | h | h | h | h | h <;> (subst h; decide +kernel))
       · first
           | (cases e; done)
           | (split at e
              · rename_i h
                cases e
                first
                  | (rcases h with h | h | h | h <;> (subst h; decide +kernel))
                  | (rcases h with h | h | h | h | h <;> (subst h; decide +kernel))
              · cases e))
/-! sum, max, min, all, any, sorted -/
def sumD : List D → Option D
  | [x] => match seqD x with
    | some xs => (intsD xs).map fun ns => .int ns.sum
    | none => none
  | _ => none
def maxI : List Int → Option Int
  | [] => none
  | n :: ns => some (ns.foldl max n)
def minI : List Int → Option Int
  | [] => none
  | n :: ns => some (ns.foldl min n)
def intsOf (x : D) : Option (List Int) := match seqD x with
  | some xs => intsD xs
  | none => none
def maxDD : List D → Option D
  | [.int i, .int j] => some (.int (max i j))
  | [x] => match intsOf x with
    | some ns => (maxI ns).map .int
    | none => none
  | _ => none
def minDD : List D → Option D
  | [.int i, .int j] => some (.int (min i j))
  | [x] => match intsOf x with
    | some ns => (minI ns).map .int
    | none => none
  | _ => none
def allD : List D → Option D
  | [.lst xs] => (blsD xs).map fun bs => .bl (bs.all id)
  | _ => none
def anyD : List D → Option D
  | [.lst xs] => (blsD xs).map fun bs => .bl (bs.any id)
  | _ => none
theorem readsInts {h : Heap} : ∀ {ns : List Int} {us : List Value}, IntsAre us ns → ∃ as, ReadsAll h us (ns.map PyData.int) as
  | _, _, .nil => ⟨_, .nil⟩
  | _, _, .cons n t r => let ⟨as, h1⟩ := readsInts r; ⟨_, .cons (.int n t) h1⟩
theorem alikeInts (ns : List Int) : PySem.W.AlikeAll (ns.map PyData.int) :=
  ⟨fun x hx y hy => by
    obtain ⟨i, _, rfl⟩ := List.mem_map.mp hx
    obtain ⟨j, _, rfl⟩ := List.mem_map.mp hy
    rfl, fun x hx => by
    obtain ⟨i, _, rfl⟩ := List.mem_map.mp hx
    exact fun z => nomatch z⟩
theorem vals_int {ns : List Int} {us : List Value} (r : Vals (ns.map V.int) us) : IntsAre us ns := intsAre_of r
section
variable {X : Cx}
theorem c_len : CallR X (.builtin "len") (rDc (cx X) lenD) := by
  intro pins s σ H xs us Q I r h
  obtain ⟨κ, S, ds, z, c, hx, e, q⟩ := h
  unfold lenD at e
  split at e
  · split at e
    · rename_i hz
      cases e
      obtain ⟨u, rfl, ru⟩ := hx.one
      rw [ru.str] at r
      exact call_len pins s σ H _ us Q I r ⟨_, _, rfl, ⟨mil_line hz, rfl⟩, want c q repInt⟩
    · cases e
  · obtain ⟨xs', e1, e2⟩ := Option.map_eq_some_iff.mp e
    subst e2
    obtain ⟨u, rfl, ru⟩ := hx.one
    obtain ⟨a, vs, e3, r2, h2⟩ := seq_at ru e1
    subst e3
    rw [← r2.length] at q
    refine call_len pins s σ H _ us Q I r ⟨_, vs.length, rfl, ?_, want c q repInt⟩
    rcases h2 with ⟨_, h2⟩ | ⟨_, h2⟩
    · exact .inl ⟨vs, h2, rfl⟩
    · exact .inr ⟨vs, h2, rfl⟩
  · cases e
theorem c_abs : CallR X (.builtin "abs") (rDc (cx X) absD) := by
  intro pins s σ H xs us Q I r h
  obtain ⟨κ, S, ds, z, c, hx, e, q⟩ := h
  unfold absD at e
  split at e
  · cases e
    obtain ⟨u, rfl, ru⟩ := hx.one
    rw [ru.int] at r
    exact call_abs pins s σ H _ us Q I r ⟨_, rfl, want c q repInt⟩
  · cases e
theorem c_int : CallR X (.type "int") (rDc (cx X) intD) := by
  intro pins s σ H xs us Q I r h
  obtain ⟨κ, S, ds, z, c, hx, e, q⟩ := h
  unfold intD at e
  split at e
  · cases e
    obtain ⟨u, rfl, ru⟩ := hx.one
    rw [ru.int] at r
    exact call_int1 pins s σ H _ us Q I r (.inl ⟨_, rfl, want c q repInt⟩)
  · cases e
    obtain ⟨u, rfl, ru⟩ := hx.one
    rw [ru.bl] at r
    exact call_int1 pins s σ H _ us Q I r (.inr ⟨_, rfl, want c q repInt⟩)
  · cases e
theorem c_divmod : CallR X (.builtin "divmod") (rDc (cx X) divmodD) := by
  intro pins s σ H xs us Q I r h
  obtain ⟨κ, S, ds, z, c, hx, e, q⟩ := h
  unfold divmodD at e
  split at e
  · split at e
    · rename_i hj
      cases e
      obtain ⟨u, u2, rfl, r1, r2⟩ := hx.two
      rw [r1.int, r2.int] at r
      exact call_divmod pins s σ H _ us Q I r ⟨_, _, rfl, hj, fun p hp => wantT c q (.cons repInt (.cons repInt .nil)) hp⟩
    · cases e
  · cases e
theorem c_tuple : CallR X (.type "tuple") (rDc (cx X) tupleD) := by
  intro pins s σ H xs us Q I r h
  obtain ⟨κ, S, ds, z, c, hx, e, q⟩ := h
  unfold tupleD at e
  split at e
  · obtain ⟨xs', e1, e2⟩ := Option.map_eq_some_iff.mp e
    subst e2
    obtain ⟨u, rfl, ru⟩ := hx.one
    obtain ⟨a, vs, e3, r2, h2⟩ := seq_atT ru e1
    subst e3
    refine call_tuple_of pins s σ H _ us Q I r ⟨a, vs, rfl, ?_⟩
    rcases h2 with ⟨_, h2⟩ | ⟨_, h2⟩
    · exact .inl ⟨h2, fun l hl => wantT c q r2 hl⟩
    · exact .inr ⟨.of h2, want c q (Rep.tup_iff.mpr ⟨a, vs, rfl, h2, r2⟩)⟩
  · cases e
theorem c_list : CallR X (.type "list") (rDn (cx X) listN) := by
  intro pins s σ H xs us Q I r h
  obtain ⟨κ, S, ds, z, c, hx, e, q⟩ := h
  unfold listN at e
  split at e
  · obtain ⟨u, rfl, ru⟩ := hx.one
    obtain ⟨a, vs, e3, r2, h2⟩ := seq_at ru e
    subst e3
    refine call_list_of pins s σ H _ us Q I r ⟨a, vs, rfl, ?_, fun l hl => q l vs hl r2⟩
    rcases h2 with ⟨_, h2⟩ | ⟨_, h2⟩
    · exact .inl h2
    · exact .inr h2
  · cases e
theorem c_isi : CallR X (.builtin "isinstance") (rDc (cx X) isiD) := by
  intro pins s σ H xs us Q I r h
  obtain ⟨κ, S, ds, z, c, hx, e, q⟩ := h
  unfold isiD at e
  split at e
  · rename_i x n
    obtain ⟨b, e1, e2⟩ := Option.map_eq_some_iff.mp e
    subst e2
    obtain ⟨u, u2, rfl, r1, r2⟩ := hx.two
    rw [Rep.ty_iff.mp (show Rep (cx X) κ H (.ty n) u2 from r2)] at r
    exact call_isi pins s σ H _ us Q I r ⟨u, .ty n, .type (tyN x), .type n, b, rfl, .ty n, tyX r1 e1, kit_ty (isi_kit e1), want c q repBl⟩
  · cases e
theorem c_sum (hc : X.calm = true) : CallR X (.builtin "sum") (rDc (cx X) sumD) := by
  intro pins s σ H xs us Q I r h
  obtain ⟨κ, S, ds, z, c, hx, e, q⟩ := h
  unfold sumD at e
  split at e
  · split at e
    · rename_i xs' e1
      obtain ⟨ns, e2, e3⟩ := Option.map_eq_some_iff.mp e
      subst e3
      obtain ⟨u, rfl, ru⟩ := hx.one
      obtain ⟨a, e3, h2⟩ := ints_at ru e1 e2
      subst e3
      rcases h2 with ⟨_, h2⟩ | ⟨_, h2⟩
      · exact cr_sum hc pins s σ H _ us Q I r ⟨a, ns, rfl, h2, want c q repInt⟩
      · obtain ⟨its, rv, p, _⟩ := I.tuple h2
        rw [Vals.ref1 r]
        have hi := vals_int rv
        obtain ⟨xs, ex⟩ := hi.allInts.items
        have hn : numsOf (intItems xs).toList = ns := by rw [← ex]; exact hi.numsOf
        rw [nums_intItems] at hn
        have p' : s.heap.IsTuple a its.toArray := p
        rw [ex] at p'
        refine PySem.W.ktm_sumG (I.ok.hd hc) p' fun h' tk t' hk => ⟨.int _, H, I.kept hk, ⟨_, rfl⟩, ?_⟩
        rw [preSum_eq, List.take_of_length_le (by simp), hn]
        exact want c q repInt
    · cases e
  · cases e
theorem c_max {k : Nat} (hc : X.calm = true) (hr : Room k X.A) : CallR X (.builtin "max") (rDc (cx X) maxDD) := by
  intro pins s σ H xs us Q I r h
  obtain ⟨κ, S, ds, z, c, hx, e, q⟩ := h
  unfold maxDD at e
  split at e
  · rename_i i j
    cases e
    obtain ⟨u, u2, rfl, r1, r2⟩ := hx.two
    rw [r1.int, r2.int] at r
    refine call_max2 hc pins s σ H _ us Q I r ⟨_, _, rfl, want c q ?_⟩
    have : (if j > i then j else i) = max i j := by split <;> omega
    rw [this]; exact repInt
  · split at e
    · rename_i ns e1
      unfold intsOf at e1
      split at e1
      · rename_i xs' e0
        obtain ⟨u, rfl, ru⟩ := hx.one
        obtain ⟨a, e3, h2⟩ := ints_at ru e0 e1
        subst e3
        cases ns with
        | nil => cases e
        | cons n ns =>
          cases e
          have hu : ∀ ms : List Int, X.A.units + 1 + PyData.depthAll (ms.map PyData.int) < cLine := fun ms => by rw [depthAll_ints]; have := hr.un; omega
          rw [Vals.ref1 r]
          have fin : ∀ (i : Nat) (v : Value) (h' : Heap) (tk : Nat) (bs : List Addr), Reads h' v (PySem.W.maxD (.int n) (ns.map .int)) bs → (∀ b o, s.heap.get? b = some o → h'.get? b = some o) → EP X pins σ Q v { s with heap := h', toks := tk } := fun i v h' tk bs rd hk => by
            rw [PySem.W.maxD_ints] at rd
            cases rd
            exact ⟨.int _, H, I.kept hk, ⟨_, rfl⟩, want c q repInt⟩
          rcases h2 with ⟨_, h2⟩ | ⟨_, h2⟩
          · obtain ⟨its, rv, p, _⟩ := I.list h2
            obtain ⟨as, hr'⟩ := readsInts (h := s.heap) (vals_int rv)
            exact PySem.W.max_list_data (I.ok.hd hc) p.isList (by simpa using hr') (by simpa using alikeInts (n :: ns)) (by simpa using hu (n :: ns)) fun i v h' tk bs _ rd hk => fin i v h' tk bs rd hk
          · obtain ⟨its, rv, p, _⟩ := I.tuple h2
            obtain ⟨as, hr'⟩ := readsInts (h := s.heap) (vals_int rv)
            exact PySem.W.max_tuple_data (I.ok.hd hc) (show s.heap.IsTuple a its.toArray from p) (by simpa using hr') (by simpa using alikeInts (n :: ns)) (by simpa using hu (n :: ns)) fun i v h' tk bs _ rd hk => fin i v h' tk bs rd hk
      · cases e1
    · cases e
  · cases e
theorem c_min {k : Nat} (hc : X.calm = true) (hr : Room k X.A) : CallR X (.builtin "min") (rDc (cx X) minDD) := by
  intro pins s σ H xs us Q I r h
  obtain ⟨κ, S, ds, z, c, hx, e, q⟩ := h
  unfold minDD at e
  split at e
  · rename_i i j
    cases e
    obtain ⟨u, u2, rfl, r1, r2⟩ := hx.two
    rw [r1.int, r2.int] at r
    refine call_min2 hc pins s σ H _ us Q I r ⟨_, _, rfl, want c q ?_⟩
    have : (if j < i then j else i) = min i j := by split <;> omega
    rw [this]; exact repInt
  · split at e
    · rename_i ns e1
      unfold intsOf at e1
      split at e1
      · rename_i xs' e0
        obtain ⟨u, rfl, ru⟩ := hx.one
        obtain ⟨a, e3, h2⟩ := ints_at ru e0 e1
        subst e3
        cases ns with
        | nil => cases e
        | cons n ns =>
          cases e
          have hu : ∀ ms : List Int, X.A.units + 1 + PyData.depthAll (ms.map PyData.int) < cLine := fun ms => by rw [depthAll_ints]; have := hr.un; omega
          rw [Vals.ref1 r]
          have fin : ∀ (i : Nat) (v : Value) (h' : Heap) (tk : Nat) (bs : List Addr), Reads h' v (PySem.W.minD (.int n) (ns.map .int)) bs → (∀ b o, s.heap.get? b = some o → h'.get? b = some o) → EP X pins σ Q v { s with heap := h', toks := tk } := fun i v h' tk bs rd hk => by
            rw [PySem.W.minD_ints] at rd
            cases rd
            exact ⟨.int _, H, I.kept hk, ⟨_, rfl⟩, want c q repInt⟩
          rcases h2 with ⟨_, h2⟩ | ⟨_, h2⟩
          · obtain ⟨its, rv, p, _⟩ := I.list h2
            obtain ⟨as, hr'⟩ := readsInts (h := s.heap) (vals_int rv)
            exact PySem.W.min_list_data (I.ok.hd hc) p.isList (by simpa using hr') (by simpa using alikeInts (n :: ns)) (by simpa using hu (n :: ns)) fun i v h' tk bs _ rd hk => fin i v h' tk bs rd hk
          · obtain ⟨its, rv, p, _⟩ := I.tuple h2
            obtain ⟨as, hr'⟩ := readsInts (h := s.heap) (vals_int rv)
            exact PySem.W.min_tuple_data (I.ok.hd hc) (show s.heap.IsTuple a its.toArray from p) (by simpa using hr') (by simpa using alikeInts (n :: ns)) (by simpa using hu (n :: ns)) fun i v h' tk bs _ rd hk => fin i v h' tk bs rd hk
      · cases e1
    · cases e
  · cases e
theorem c_all (hc : X.calm = true) : CallR X (.builtin "all") (rDc (cx X) allD) := by
  intro pins s σ H xs us Q I r h
  obtain ⟨κ, S, ds, z, c, hx, e, q⟩ := h
  unfold allD at e
  split at e
  · obtain ⟨bs, e1, e2⟩ := Option.map_eq_some_iff.mp e
    subst e2
    obtain ⟨u, rfl, ru⟩ := hx.one
    obtain ⟨a, vs, e3, h1, h2⟩ := ru.lst
    subst e3
    rw [blsD_eq e1] at h2
    rw [h2.bls] at h1
    exact cr_all hc pins s σ H _ us Q I r ⟨a, bs, rfl, .inl (.inl h1), want c q repBl⟩
  · cases e
theorem c_any (hc : X.calm = true) : CallR X (.builtin "any") (rDc (cx X) anyD) := by
  intro pins s σ H xs us Q I r h
  obtain ⟨κ, S, ds, z, c, hx, e, q⟩ := h
  unfold anyD at e
  split at e
  · obtain ⟨bs, e1, e2⟩ := Option.map_eq_some_iff.mp e
    subst e2
    obtain ⟨u, rfl, ru⟩ := hx.one
    obtain ⟨a, vs, e3, h1, h2⟩ := ru.lst
    subst e3
    rw [blsD_eq e1] at h2
    rw [h2.bls] at h1
    exact cr_any hc pins s σ H _ us Q I r ⟨a, bs, rfl, .inl (.inl h1), want c q repBl⟩
  · cases e
def isort (ns : List Int) : List Int := ns.mergeSort (fun a b => decide (a ≤ b))
def sortN : List D → Option (List D)
  | [x] => (intsOf x).map fun ns => (isort ns).map .int
  | _ => none
theorem isort_eq {ns ms : List Int} (p : ms.Perm ns) (s : ms.Pairwise (· ≤ ·)) : ms = isort ns := by
  have h1 : (isort ns).Pairwise (fun a b => decide (a ≤ b) = true) := List.pairwise_mergeSort (fun a b c h1 h2 => by simp at *; omega) (fun a b => by simp; omega) ns
  have h2 : (isort ns).Perm ns := List.mergeSort_perm ns _
  refine List.Perm.eq_of_pairwise (le := (· ≤ ·)) (fun a b _ _ h1 h2 => by omega) s (h1.imp fun h => by simpa using h) (p.trans h2.symm)
end
end Dn

/-! Dn7: sorted, x[::-1], methods of cells, x[i] = v, calls by name, x += v, a, b = .. -/
namespace HT
open PySem PySem.Spec PyProof.Rows
section
variable {prog : Program} {w : World} {A : Around} {E : Value → Shared → Prop} {s : Shared}
theorem sliceApplied_rev {sl : Addr} {vl vu vs : Value} {n : Nat} {Q : Int × Int × Nat → Shared → Prop} (hs : s.heap.IsSliceOf sl vl vu vs) (pl : IsPart vl none) (pu : IsPart vu none) (pv : IsPart vs (some (-1)))
    (h : Q ((n : Int) - 1, -1, n) s) : wpAny (model prog w) A (Builtin.Slice.sliceApplied (.ref sl) (pure (n : Int))) Q E s := by
  obtain ⟨os, hos, hcs, hds⟩ := id hs
  unfold Builtin.Slice.sliceApplied Builtin.Slice.sliceFields
  refine wpAny_bind (wpAny_bind (wpAny_field hos hds (x := vl) rfl (wpAny_bind (wpAny_field hos hds (x := vu) rfl (wpAny_bind (wpAny_field hos hds (x := vs) rfl (wpAny_pure ?_)))))))
  refine wpAny_bind (slicePart_ pv ?_)
  show wpAny _ _ (if ((-1 : Int) == 0) = true then _ else _) _ _ s
  rw [if_neg (by decide)]
  refine wpAny_bind (slicePart_ pl (wpAny_bind (slicePart_ pu (wpAny_bind (wpAny_pure ?_)))))
  show wpAny _ _ (pure ((n : Int) - 1, (-1 : Int), Builtin.Slice.slicePlaces ((n : Int) - 1) (-1) (-1))) _ _ s
  have : Builtin.Slice.slicePlaces ((n : Int) - 1) (-1) (-1) = n := by
    unfold Builtin.Slice.slicePlaces
    rw [if_neg (by decide)]
    by_cases hn : n = 0
    · subst hn; rfl
    · rw [if_pos (by omega)]
      have : ((n : Int) - 1 - -1 - 1) / (- -1) + 1 = (n : Int) := by
        show ((n : Int) - 1 - -1 - 1) / 1 + 1 = (n : Int)
        rw [Int.ediv_one]; omega
      rw [this]; simp
  rw [this]
  exact wpAny_pure h
theorem fm_congr {α β : Type} {f g : α → Option β} : ∀ {l : List α}, (∀ x ∈ l, f x = g x) → l.filterMap f = l.filterMap g
  | [], _ => rfl
  | x :: l, h => by
    rw [List.filterMap_cons, List.filterMap_cons, h x List.mem_cons_self, fm_congr fun y m => h y (List.mem_cons_of_mem _ m)]
theorem pick_rev (xs : Array Value) : ((List.range xs.size).filterMap fun (m : Nat) => xs[(((xs.size : Int) - 1) + (m : Int) * (-1)).toNat]?).toArray = xs.toList.reverse.toArray := by
  congr 1
  have e : (List.range xs.size).filterMap (fun (m : Nat) => xs[(((xs.size : Int) - 1) + (m : Int) * (-1)).toNat]?) = (List.range xs.size).map (fun m => xs.toList.reverse.getD m .none) := by
    rw [← List.filterMap_eq_map]
    apply fm_congr
    intro m hm
    have hm := List.mem_range.mp hm
    have e1 : (((xs.size : Int) - 1) + (m : Int) * (-1)).toNat = xs.size - 1 - m := by omega
    rw [e1]
    show _ = some (xs.toList.reverse.getD m .none)
    rw [List.getD_eq_getElem?_getD, List.getElem?_reverse (by simpa using hm)]
    simp only [Array.length_toList, Array.getElem?_toList]
    have hlt : xs.size - 1 - m < xs.size := by omega
    rw [Array.getElem?_eq_getElem hlt]; rfl
  rw [e]
  apply List.ext_getElem?
  intro i
  rw [List.getElem?_map]
  by_cases h : i < xs.size
  · rw [List.getElem?_range h]
    have h2 : i < xs.toList.reverse.length := by simpa using h
    rw [List.getElem?_eq_getElem h2]
    show some (xs.toList.reverse.getD i .none) = _
    rw [List.getD_eq_getElem?_getD, List.getElem?_eq_getElem h2]; rfl
  · rw [List.getElem?_eq_none (by simpa using h), List.getElem?_eq_none (by simpa using h)]; rfl
theorem getItem_tuple_rev {t sl : Addr} {items : Array Value} {vl vu vs : Value} {Q : Value → Shared → Prop} (ht : IsTup s.heap t items) (hs : s.heap.IsSliceOf sl vl vu vs) (pl : IsPart vl none) (pu : IsPart vu none) (pv : IsPart vs (some (-1)))
    (h : Q (.ref s.heap.objs.size) { s with heap := s.heap.push { cls := .type "tuple", data := .seq items.toList.reverse.toArray } })
    (hsz : items.size ≤ sizeLine) : wpAny (model prog w) A (getItem (.ref t) (.ref sl)) Q E s := by
  have htake : sizeOk (.seq items.toList.reverse.toArray) := by
    show items.toList.reverse.toArray.size ≤ sizeLine
    rw [List.size_toArray, List.length_reverse, Array.length_toList]
    exact hsz
  obtain ⟨os, hos, hcs, hds⟩ := id hs
  have hTs : s.TypeIs (.ref sl) "slice" := ⟨os, hos, hcs⟩
  unfold getItem
  try with_reducible refine wpAny_holding ?_
  first | refine wpAny_bind (wpAny_pure ?_) | skip
  refine wpAny_bind (wpAny_sequenceKey ht.typeIs (by decide) ?_)
  refine wpAny_bind (wpAny_callSpecial?_slot (name := Str.ofString "__getitem__") ht.typeIs PyProof.Rows.slot_tuple_getitem
    (wpAny_call_entry PyProof.Rows.slot_tuple_getitem ht.typeIs entry_tuple_getitem ?_ (args_tuple_getitem _ _)))
  show wpAny _ _ (Builtin.Tuple.tupleItemsOf (.ref t) >>= _) _ _ s
  refine wpAny_bind (tupleItemsOf_ ht ?_)
  refine wpAny_bind (wpAny_typeOf hTs ?_)
  rw [if_pos (by decide)]
  refine wpAny_bind (sliceApplied_rev hs pl pu pv ?_)
  have hno : ¬ ((((items.size : Int) - 1) == 0 && (-1 : Int) == 1 && items.size == items.size) = true) := by
    intro q
    rw [Bool.and_eq_true, Bool.and_eq_true] at q
    exact absurd q.1.2 (by decide)
  show wpAny _ _ (if ((((items.size : Int) - 1) == 0 && (-1 : Int) == 1 && items.size == items.size) = true) then _ else _) _ _ s
  rw [if_neg hno, pick_rev]
  first
    | exact wpAny_bind (m := Builtin.Tuple.tupleExact _) (wpAny_newObj_type (wpAny_pure ⟨_, rfl, wpAny_pure h⟩) htake)
    | exact wpAny_bind (m := Builtin.Tuple.tupleExact _) (wpAny_newObj_type (wpAny_bind (wpAny_pure (wpAny_pure ⟨_, rfl, wpAny_pure h⟩))) htake)
    | exact wpAny_bind (wpAny_bind (m := Builtin.Tuple.tupleExact _) (wpAny_newObj_type (wpAny_pure (wpAny_pure ⟨_, rfl, wpAny_pure h⟩)) htake))
    | exact wpAny_bind (wpAny_bind (m := Builtin.Tuple.tupleExact _) (wpAny_newObj_type (wpAny_pure ⟨_, rfl, wpAny_pure h⟩) htake))
end
end HT
namespace Dn
open PySem PySem.Spec PyProof.Rows L2

/-! ### sorted -/
section
variable {prog : Program} {w : World} {A : Around} {E : Value → Shared → Prop} {s : Shared}
theorem collect_tup {l : Addr} {vs : List Value} {Q : List Value → Shared → Prop} (hl : s.heap.IsTuple l vs.toArray)
    (h : Q vs { s with heap := (s.heap.push (seqObj "list" #[] 0)).update s.heap.objs.size (Obj.mapSeq (· ++ vs.toArray)) }) (hsz : vs.length ≤ sizeLine) :
    wpAny (model prog w) A (collect (.ref l)) Q E s := by
  obtain ⟨o, ho, hc, n, hd⟩ := id hl
  unfold collect
  refine wpAny_bind (wpAny_runValue (codeAny_builtin entry_proto_collect' ?_))
  show wpAny _ _ (do again (.builtin "list.__iadd__" ⟨[← newList [], .ref l], []⟩)) _ _ s
  refine wpAny_bind (wpAny_newList (wpAny_pure ⟨Code.quiet_builtin _ (by decide +kernel), codeAny_builtin entry_list_iadd' ?_⟩))
  show wpAny _ _ (Builtin.List.listExtendWith (.ref s.heap.objs.size) (.ref l) (.ref s.heap.objs.size)) _ _ { s with heap := s.heap.push (seqObj "list" #[] 0) }
  unfold Builtin.List.listExtendWith
  have ho' : (s.heap.push (seqObj "list" #[] 0)).get? l = some o := Heap.get?_push_of_some _ ho
  refine wpAny_bind (wpAny_typeOf (T := "tuple") ⟨o, ho', hc⟩ ?_)
  have ht : (Value.type "tuple" == Value.type "tuple") = true := by rfl
  rw [if_pos (by rw [ht]; simp)]
  refine wpAny_bind (listItems_at ho' hd ?_)
  refine wpAny_bind (listItems_at (xs := #[]) (n := 0) (Heap.get?_push_size _ rfl) rfl ?_)
  rw [if_neg (by simp)]
  refine wpAny_bind (listUpdate_at (xs := #[]) (n := 0) (Heap.get?_push_size _ rfl) rfl ?_ (Nat.zero_le _) (by show (#[] ++ vs.toArray).size ≤ sizeLine + 1; simp only [Array.size_append, List.size_toArray, List.length_nil]; omega))
  refine wpAny_pure ?_
  show wpAny (model prog w) A (do
      let o ← load s.heap.objs.size
      match o.data with
      | .seq xs _ => pure xs.toList
      | _ => unsupported "internal:collect") Q E { s with heap := (s.heap.push (seqObj "list" #[] 0)).update s.heap.objs.size (Obj.mapSeq (· ++ vs.toArray)) }
  refine wpAny_bind (wpAny_load (get?_update_seq (Heap.get?_push_size _ rfl) _) ?_)
  show wpAny _ _ (pure ((#[] : Array Value) ++ vs.toArray).toList) Q E _
  refine wpAny_pure ?_
  simpa using h
theorem sorted_ordT {l : Addr} {vs : List Value} {ltv : Value → Value → Bool} {Q : Value → Shared → Prop} (O : SrtO.Swo ltv) (hl : s.heap.IsTuple l vs.toArray) (hz : vs.length ≤ sizeLine)
    (hS : 2 ≤ vs.length → ∀ (h₁ : Heap) (a : Addr), h₁.get? a = some (seqObj "list" vs.toArray 0) → (∀ b o, s.heap.get? b = some o → b ≠ a ∧ h₁.get? b = some o) → SrtO.SortableO prog w A.in1.in1 { s with heap := h₁ } a vs ltv)
    (h : ∀ out : List Value, SrtO.Srtd ltv out → SrtO.Stb ltv out vs → Q (.ref (s.heap.objs.size + 1)) { s with heap := sortedAll s.heap vs out.toArray }) :
    wpAny (model prog w) A (call (.builtin "sorted") [.ref l]) Q E s := by
  refine Calls.call_function_entry kind_sorted plain_sorted entry_sorted (args_sorted1 _) ?_
  unfold Builtin.«sorted»
  refine wpAny_bind (m := checkCount "sorted" 1 1 _) (wpAny_pure ?_)
  refine wpAny_bind (collect_tup hl ?_ hz)
  refine wpAny_bind (wpAny_newList ?_ hz)
  have hsz : ((s.heap.push (seqObj "list" #[] 0)).update s.heap.objs.size (Obj.mapSeq (· ++ vs.toArray))).objs.size = s.heap.objs.size + 1 := by
    rw [Heap.size_update, size_push']
  have hoL : (((s.heap.push (seqObj "list" #[] 0)).update s.heap.objs.size (Obj.mapSeq (· ++ vs.toArray))).push (seqObj "list" vs.toArray 0)).get? (s.heap.objs.size + 1) = some (seqObj "list" vs.toArray 0) := by
    rw [← hsz]; exact Heap.get?_push_size _ rfl
  have keep : ∀ b o, s.heap.get? b = some o → b ≠ s.heap.objs.size + 1 ∧ (((s.heap.push (seqObj "list" #[] 0)).update s.heap.objs.size (Obj.mapSeq (· ++ vs.toArray))).push (seqObj "list" vs.toArray 0)).get? b = some o := fun b o q => by
    have hlt : b < s.heap.objs.size := Heap.lt_size q
    refine ⟨Nat.ne_of_lt (Nat.lt_succ_of_lt hlt), Heap.get?_push_of_some _ ?_⟩
    rw [Heap.get?_update_ne _ _ _ _ (Nat.ne_of_lt hlt)]
    exact Heap.get?_push_of_some _ q
  show wpAny _ _ _ _ _ { s with heap := ((s.heap.push (seqObj "list" #[] 0)).update s.heap.objs.size (Obj.mapSeq (· ++ vs.toArray))).push (seqObj "list" vs.toArray 0) }
  rw [hsz]
  refine wpAny_bind (wpAny_holding (wpAny_call_entry slot_list_sort ⟨_, hoL, rfl⟩ entry_list_sort (SrtO.list_sort_ord O hoL hz (fun h2 => hS h2 _ _ hoL keep) fun out hs hb => ⟨_, rfl, ?_⟩) (args_list_sort _)))
  exact wpAny_pure ⟨_, rfl, h out hs hb⟩
end
theorem c_sorted {X : Cx} : CallR X (.builtin "sorted") (rDn (cx X) sortN) := by
  intro pins s σ H xs us Q I r h
  obtain ⟨κ, S, ds, z, c, hx, e, q⟩ := h
  unfold sortN at e
  split at e
  · obtain ⟨ns, e1, e2⟩ := Option.map_eq_some_iff.mp e
    subst e2
    unfold intsOf at e1
    split at e1
    · rename_i xs' e0
      obtain ⟨u, rfl, ru⟩ := hx.one
      obtain ⟨a, e3, h2⟩ := ints_at ru e0 e1
      subst e3
      rcases h2 with ⟨_, h2⟩ | ⟨_, h2⟩
      · refine cr_sortedI pins s σ H _ us Q I r ⟨a, ns, rfl, h2, ?_⟩
        intro ns' p hp hs hn
        rw [isort_eq hp hs]
        exact q p _ hn (RepL.of_ints _)
      · obtain ⟨its, rv, hl, hz⟩ := I.tuple h2
        rw [Vals.ref1 r]
        have hi := vals_int rv
        refine sorted_ordT SrtO.swo_int (show s.heap.IsTuple a its.toArray from hl) (by rw [← rv.length]; exact hz) (fun h2 h₁ a' _ _ => SrtO.ints_sortable hi h2) fun out h1 h2 => ?_
        obtain ⟨k1, k2, k3⟩ := SrtO.ints_out hi h1 h2
        obtain ⟨ep, he'⟩ := PyProof.Rows.sortedAll_at s.heap its out.toArray
        have hlen : ((out.map SrtO.iv).map V.int).length ≤ sizeLine := by
          rw [List.length_map, k2.length_eq]
          rw [List.length_map] at hz
          exact hz
        refine ⟨.ref _, upd H (s.heap.objs.size + 1) (.lst ((out.map SrtO.iv).map V.int)), I.laid (t' := s.toks) (fun _ _ => PyProof.Rows.sortedAll_old) (Nat.le_succ _) ⟨hlen, out, ep, vals_of_ints k1, he'⟩, rfl, ?_⟩
        rw [isort_eq k2 k3]
        exact q _ _ (I.hok.fresh (Nat.le_succ _)) (RepL.of_ints _)
    · cases e1
  · cases e

/-! ### x[::-1] -/
def revD : D → Option D
  | .tup xs => some (.tup xs.reverse)
  | .lst xs => some (.lst xs.reverse)
  | .scr ns => some (.lst (ns.reverse.map .int))
  | _ => none
def tRev (r : V → Hp → VK → Prop) (te : TE) : TE := fun σ H Q => te σ H fun x H1 => r x H1 Q
theorem pe_rev {X : Cx} {e : Expr} {te : TE} {k : Nat} {p1 p2 p3 pos : Pos} (he : PE X e te) : PE X (.Subscript e (.Slice none none (some (.UnaryOp .USub (.Constant (.int 1) k p1) p2)) p3) pos) (tRev (rD1 (cx X) revD) te) := by
  refine ⟨fun pins s σ H Q I h => ?_⟩
  refine Subscript_ (thn (he.run pins s σ H _ I h) fun v s1 ⟨x, H1, I1, r1, q1⟩ => ?_)
  have hst : PO X (some (.UnaryOp .USub (.Constant (.int 1) k p1) p2)) (tPart (tUn (rU fun i => .int (-i)) (tC (.int 1)))) := po_some (pe_un un_neg pe_int)
  refine wpAny_Slice (thn (po_none.run pins s1 σ H1 (fun o H2 => o = none ∧ H2 = H1) I1 ⟨rfl, rfl⟩) fun vl s2 ⟨l, H2, I2, pl, el, e2⟩ => ?_)
  subst el e2
  refine thn (po_none.run pins s2 σ H2 (fun o H3 => o = none ∧ H3 = H2) I2 ⟨rfl, rfl⟩) fun vu s3 ⟨u, H3, I3, pu, eu, e3⟩ => ?_
  subst eu e3
  refine thn (hst.run pins s3 σ H3 (fun o H4 => o = some (-1) ∧ H4 = H3) I3 ⟨1, rfl, -1, rfl, rfl, rfl⟩) fun vs s4 ⟨o, H4, I4, ps, eo, e4⟩ => ?_
  subst eo e4
  have I5 : Inv X pins σ H4 { s4 with heap := s4.heap.push { cls := .type "slice", data := .fields #[vl, vu, vs] } } := I4.kept (t' := s4.toks) fun b ob q => Heap.get?_push_of_some _ q
  obtain ⟨κ, S, dx, z, c, hdx, er, q⟩ := q1
  have lstCase : ∀ (a : Addr) (xs : List V) (ds : List D), x = .ref a → SqL X.K H4 a xs → RepL (cx X) κ H4 ds xs → z = .lst ds.reverse → wpAny (model X.prog X.w) X.A (subscriptTail e (.Slice none none (some (.UnaryOp .USub (.Constant (.int 1) k p1) p2)) p3) v (.ref s4.heap.objs.size)) (EP X pins σ Q) X.xe { s4 with heap := s4.heap.push { cls := .type "slice", data := .fields #[vl, vu, vs] } } := fun a xs ds ex hx rr ez => by
    subst ex ez
    cases r1
    obtain ⟨its, r, ht, hz⟩ := I5.list hx
    refine tail_any (ops := [.ref a, .ref s4.heap.objs.size]) ht.isList.typeIs (PySem.slot_list_getitem.lookup) ?_ (by with_unfolding_all rfl)
    refine wpAny_getItem_list_slice ht.isList (Heap.IsSliceOf.new _ vl vu vs) pl pu ps (by decide) ?_ (by rw [List.size_toArray]; have := r.length; omega)
    rw [PySem.W.krv_pick]
    refine ⟨.ref _, _, I5.laid (t' := s4.toks) (o := .lst xs.reverse) (fun b ob q => Heap.get?_push_of_some _ q) (Nat.le_refl _) ?_, rfl, wantL c q rr.reverse (I5.hok.fresh (Nat.le_refl _))⟩
    exact ⟨by rw [List.length_reverse]; exact hz, _, 0, r.reverse, Heap.get?_push_size _ rfl⟩
  unfold revD at er
  split at er
  · rename_i ds
    cases er
    obtain ⟨a, xs, ex, hx, rr⟩ := hdx.tup
    subst ex
    cases r1
    obtain ⟨its, r, ht, hz⟩ := I5.tuple (.of hx)
    show wpAny (model X.prog X.w) X.A (subscriptTail e (.Slice none none (some (.UnaryOp .USub (.Constant (.int 1) k p1) p2)) p3) (.ref a) (.ref s4.heap.objs.size)) (EP X pins σ Q) X.xe { s4 with heap := s4.heap.push { cls := .type "slice", data := .fields #[vl, vu, vs] } }
    refine tail_any (ops := [.ref a, .ref s4.heap.objs.size]) ht.typeIs (PyProof.Rows.slot_tuple_getitem.lookup) ?_ (by with_unfolding_all rfl)
    refine HT.getItem_tuple_rev ht (Heap.IsSliceOf.new _ vl vu vs) pl pu ps ?_ (by rw [List.size_toArray]; have := r.length; omega)
    refine ⟨.ref _, _, I5.laid (t' := s4.toks) (o := .tup xs.reverse) (fun b ob q => Heap.get?_push_of_some _ q) (Nat.le_refl _) ?_, rfl, wantT c q rr.reverse (I5.hok.fresh (Nat.le_refl _))⟩
    exact ⟨by rw [List.length_reverse]; exact hz, _, r.reverse, IsTup.new _ _⟩
  · cases er
    obtain ⟨a, xs, ex, hx, rr⟩ := hdx.lst
    exact lstCase a xs _ ex (.inl (.inl hx)) rr rfl
  · rename_i ns
    cases er
    obtain ⟨a, ex, hx⟩ := hdx.scr
    exact lstCase a _ (ns.map D.int) ex hx.seq (RepL.of_ints ns) (by rw [List.map_reverse])
  · cases er
theorem de_rev {X : Cx} {W : WX} {e : Expr} {fe : Env' → M Val} {k : Nat} {p1 p2 p3 pos : Pos} (he : DE X W e fe) : DE X W (.Subscript e (.Slice none none (some (.UnaryOp .USub (.Constant (.int 1) k p1) p2)) p3) pos) (dOp1 revD fe) := pe_imp (pe_rev he) fun _ _ _ h => ev_op1 h

/-! ### a cell's list is changed -/
theorem Grow.cell {κ : Ks} {H : Hp} {a : Addr} {xs : List V} {u : HO} (m : a ∈ κ.cells) (h : H a = some (.lst xs)) : Grow κ H κ (upd H a u) :=
  ⟨⟨[], by simp⟩, fun _ z => .inl z, fun _ z => z, fun b o n e => by rw [upd_ne (fun z => n (by rw [z]; exact m))]; exact e, fun b z n => absurd z n, fun b o e => by
    by_cases hb : b = a
    · exact ⟨u, by rw [hb]; exact upd_same⟩
    · exact ⟨o, by rw [upd_ne hb]; exact e⟩,
   fun b ys e => by rw [upd_ne (fun z => by rw [z, h] at e; cases e)]; exact e, fun b o w e => by rw [upd_ne (fun z => by rw [z, h] at e; cases e)]; exact e⟩
theorem Cells.setc {C : Ctx} {κ : Ks} {H : Hp} {S : Store} {n : Nat} {a : Addr} {xs vs' : List V} {old new : List D} (c : Cells C κ H S) (ha : κ.cells[n]? = some a) (hs : S[n]? = some (.lst old)) (h : H a = some (.lst xs)) (r : RepL C κ H new vs') :
    Cells C κ (L2.upd H a (.lst vs')) (S.set n (.lst new)) := by
  have m : a ∈ κ.cells := List.mem_of_getElem? ha
  have g : Grow κ H κ (L2.upd H a (.lst vs')) := .cell m h
  have hn : n < S.length := (List.getElem?_eq_some_iff.mp hs).1
  refine ⟨by rw [List.length_set]; exact c.len, c.nd, fun j y b h1 h2 => ?_, fun b z => ?_⟩
  · by_cases hj : n = j
    · subst hj
      rw [List.getElem?_set_self hn] at h1
      cases h1
      rw [ha] at h2
      cases h2
      exact ⟨vs', upd_same, r.grow g⟩
    · rw [List.getElem?_set_ne hj] at h1
      refine (c.ok j y b h1 h2).grow g (upd_ne fun z => hj ?_)
      subst z
      obtain ⟨b1, e1⟩ := List.getElem?_eq_some_iff.mp ha
      obtain ⟨b2, e2⟩ := List.getElem?_eq_some_iff.mp h2
      exact (List.getElem_inj c.nd).mp (e1.trans e2.symm)
  · obtain ⟨n1, o, q⟩ := c.occ b z
    exact ⟨n1, o, by rw [upd_ne (fun e => n1 (by rw [e]; exact m))]; exact q⟩
/-- the value is a cell that holds a list -/
def lstC (v : Val) : M Nat := fun S => match v with
  | .cell n => match S[n]? with
    | some (.lst _) => .ok n S
    | _ => .bad
  | _ => .bad
abbrev relC (C : Ctx) : Ks → Hp → Nat → V → Prop := fun κ H n v => RepV C κ H (.cell n) v
theorem lstC_post {C : Ctx} {α β : Type} {rel : Ks → Hp → α → β → Prop} {κ : Ks} {H : Hp} {S : Store} {v : Val} {x : V} {k : Nat → M α} {Q : β → Hp → Prop} {E : XK} (c : Cells C κ H S) (r : RepV C κ H v x) (p : PostG C rel κ H ((lstC v S).bind k) Q E) :
    ∃ n a vs, v = .cell n ∧ κ.cells[n]? = some a ∧ x = .ref a ∧ H a = some (.lst vs) ∧ PostG C rel κ H (k n S) Q E := by
  unfold lstC at p
  split at p
  · rename_i n
    split at p
    · rename_i xs q
      obtain ⟨a, h1, h2⟩ := r
      obtain ⟨vs, h3, _⟩ := c.ok n _ a q h1
      exact ⟨n, a, vs, rfl, h1, h2, h3, p⟩
    · exact p.elim
  · exact p.elim
def appC (n : Nat) (v : Val) : M Val := fun S => match S[n]?, v with
  | some (.lst xs), .d x => if xs.length < 1000000 then .ok (.d .non) (S.set n (.lst (xs ++ [x]))) else .bad
  | _, _ => .bad
def dApp (fo fx : Env' → M Val) : Env' → M Val := fun ρ => M.bind (fo ρ) fun v => M.bind (lstC v) fun n => M.bind (fx ρ) fun a => appC n a
def extC (n : Nat) (v : Val) : M Val := fun S => match S[n]?, rd v S with
  | some (.lst xs), some (.lst ys) => if xs.length + ys.length ≤ 1000000 then .ok (.d .non) (S.set n (.lst (xs ++ ys))) else .bad
  | _, _ => .bad
def dExt (fo fx : Env' → M Val) : Env' → M Val := fun ρ => M.bind (fo ρ) fun v => M.bind (lstC v) fun n => M.bind (fx ρ) fun a => extC n a
def popC (n : Nat) : M Val := fun S => match S[n]? with
  | some (.lst xs) => match xs.getLast? with
    | some x => .ok (.d x) (S.set n (.lst xs.dropLast))
    | none => .bad
  | _ => .bad
def dPop (fo : Env' → M Val) : Env' → M Val := fun ρ => M.bind (fo ρ) fun v => M.bind (lstC v) fun n => popC n
section
variable {X : Cx} {W : WX} {apos cpos : Pos} {o e : Expr} {fo fx : Env' → M Val}
theorem arg_one {C : Ctx} {W : WX} {f : Env' → M Val} {σ : L2.St} {H : Hp} {Q : List V → Hp → Prop} (h : Ev C (relV C) W f σ H fun v H1 => Q [v] H1) : tCons (Ev C (relV C) W f) tNil σ H Q := h
theorem de_append (slot : Slot "list" "append" "list.append" := by exact F.slot_list_append) (pa : PlainAttrs "list") (hty : typeOf (.builtin "list.append") = pure (.type "method_descriptor")) (ho : DE X W o fo) (hx : DE X W e fx)
    (hbase : attributeBase o "append" X.env (eval o X.env) = eval o X.env := by rfl)
    (hfew : ((backTo cpos (starEach [e] X.env)).all (fun x => !x.1) && (backToKw cpos (keywordEach [] X.env)).all (fun x => x.1.isSome)
      && decide ([e].length + ([] : List Keyword).length + (if ([] : List Keyword).isEmpty then 0 else 1) < 30)) = true := by rfl)
    (hline : (apos.endLine == cpos.line) = true := by rfl) (hs : starEach [e] X.env = (false, eval e X.env) :: starEach [] X.env := by rfl) (hplain : (backTo cpos (starEach [] X.env)).any (·.1) = false := by rfl) :
    DE X W (.Call (.Attribute o "append" apos) [e] [] cpos) (dApp fo fx) := pe_imp (pe_bm pa slot hty mt_append ho (pa_cons hx pa_nil hs) hbase hfew hline hs hplain) fun σ H Q h => by
  obtain ⟨κ, ρ, S, s, p⟩ := h
  obtain ⟨k1, r1, s1, sm, q⟩ := Ev.bind (rel1 := relV (cx X)) s p
  refine ⟨k1, r1, s1, sm, q.mono ?_⟩
  rintro x H1 ⟨κ1, S1, v, g1, sm1, rx, p1⟩
  obtain ⟨n, a, vs, ev, ha, ex, hl, p2⟩ := lstC_post sm1.cells rx p1
  subst ev ex
  refine ⟨.inl ⟨rfl, vs, .inl (.inl hl)⟩, arg_one ?_⟩
  obtain ⟨k2, r2, s2, sm2, q2⟩ := Ev.bind (rel1 := relV (cx X)) sm1 p2
  refine ⟨k2, r2, s2, sm2, q2.mono ?_⟩
  rintro y H2 ⟨κ2, S2, w, g2, sm2, ry, p3⟩
  unfold appC at p3
  split at p3
  · rename_i xs z q
    split at p3
    · rename_i hz
      have ha2 := g2.get ha
      obtain ⟨us, h3, r3⟩ := sm2.cells.ok n _ a q ha2
      refine ⟨a, us, y, rfl, rfl, h3, mil_lt (by rw [r3.length]; exact hz), ?_⟩
      exact p3 .non κ2 _ (.cell (List.mem_of_getElem? ha2) h3) (sm2.cells.setc ha2 q h3 (r3.append (.cons ry .nil))) RepV.non
    · exact p3.elim
  · exact p3.elim
theorem de_extend (slot : Slot "list" "extend" "list.extend" := by exact F.slot_list_extend) (pa : PlainAttrs "list") (hty : typeOf (.builtin "list.extend") = pure (.type "method_descriptor")) (ho : DE X W o fo) (hx : DE X W e fx)
    (hbase : attributeBase o "extend" X.env (eval o X.env) = eval o X.env := by rfl)
    (hfew : ((backTo cpos (starEach [e] X.env)).all (fun x => !x.1) && (backToKw cpos (keywordEach [] X.env)).all (fun x => x.1.isSome)
      && decide ([e].length + ([] : List Keyword).length + (if ([] : List Keyword).isEmpty then 0 else 1) < 30)) = true := by rfl)
    (hline : (apos.endLine == cpos.line) = true := by rfl) (hs : starEach [e] X.env = (false, eval e X.env) :: starEach [] X.env := by rfl) (hplain : (backTo cpos (starEach [] X.env)).any (·.1) = false := by rfl) :
    DE X W (.Call (.Attribute o "extend" apos) [e] [] cpos) (dExt fo fx) := pe_imp (pe_bm pa slot hty mt_extend ho (pa_cons hx pa_nil hs) hbase hfew hline hs hplain) fun σ H Q h => by
  obtain ⟨κ, ρ, S, s, p⟩ := h
  obtain ⟨k1, r1, s1, sm, q⟩ := Ev.bind (rel1 := relV (cx X)) s p
  refine ⟨k1, r1, s1, sm, q.mono ?_⟩
  rintro x H1 ⟨κ1, S1, v, g1, sm1, rx, p1⟩
  obtain ⟨n, a, vs, ev, ha, ex, hl, p2⟩ := lstC_post sm1.cells rx p1
  subst ev ex
  refine ⟨.inl ⟨rfl, vs, .inl (.inl hl)⟩, arg_one ?_⟩
  obtain ⟨k2, r2, s2, sm2, q2⟩ := Ev.bind (rel1 := relV (cx X)) sm1 p2
  refine ⟨k2, r2, s2, sm2, q2.mono ?_⟩
  rintro y H2 ⟨κ2, S2, w, g2, sm2, ry, p3⟩
  unfold extC at p3
  split at p3
  · rename_i xs ys q ew
    split at p3
    · rename_i hz
      have ha2 := g2.get ha
      obtain ⟨us, h3, r3⟩ := sm2.cells.ok n _ a q ha2
      obtain ⟨b, ws, e4, h4, r4⟩ := (rd_rep sm2.cells ry ew).lst
      refine ⟨a, b, us, ws, rfl, by rw [e4], h3, h4, two_line (by rw [r3.length, r4.length]; exact hz), ?_⟩
      exact p3 .non κ2 _ (.cell (List.mem_of_getElem? ha2) h3) (sm2.cells.setc ha2 q h3 (r3.append r4)) RepV.non
    · exact p3.elim
  · exact p3.elim
theorem de_pop (slot : Slot "list" "pop" "list.pop" := by exact F.slot_list_pop) (pa : PlainAttrs "list") (hty : typeOf (.builtin "list.pop") = pure (.type "method_descriptor")) (ho : DE X W o fo)
    (hbase : attributeBase o "pop" X.env (eval o X.env) = eval o X.env := by rfl) (hline : (apos.endLine == cpos.line) = true := by rfl) :
    DE X W (.Call (.Attribute o "pop" apos) [] [] cpos) (dPop fo) := pe_imp (pe_bm0 pa slot hty mt_pop ho hbase hline) fun σ H Q h => by
  obtain ⟨κ, ρ, S, s, p⟩ := h
  obtain ⟨k1, r1, s1, sm, q⟩ := Ev.bind (rel1 := relV (cx X)) s p
  refine ⟨k1, r1, s1, sm, q.mono ?_⟩
  rintro x H1 ⟨κ1, S1, v, g1, sm1, rx, p1⟩
  obtain ⟨n, a, vs, ev, ha, ex, hl, p3⟩ := lstC_post sm1.cells rx p1
  subst ev ex
  refine ⟨.inl ⟨rfl, vs, .inl (.inl hl)⟩, ?_⟩
  unfold popC at p3
  split at p3
  · rename_i xs q
    split at p3
    · rename_i z hz
      obtain ⟨us, h3, r3⟩ := sm1.cells.ok n _ a q ha
      have hz' : xs[xs.length - 1]? = some z := by rw [← List.getLast?_eq_getElem?]; exact hz
      obtain ⟨y, h5, h6⟩ := r3.get hz'
      refine ⟨a, us, y, rfl, rfl, h3, by rw [r3.length]; exact h5, ?_⟩
      have gc : Grow κ1 H1 κ1 (upd H1 a (.lst us.dropLast)) := .cell (List.mem_of_getElem? ha) h3
      exact p3 y κ1 _ gc (sm1.cells.setc ha q h3 r3.dropLast) (Rep.grow gc h6)
    · exact p3.elim
  · exact p3.elim
end

/-! ### targets that change a cell -/
abbrev TX := D → Env' → Store → Option (Env' × Store)
structure DGX (X : Cx) (tg : Expr) (b : TX) (g : TG) : Prop where
  pg : PG X tg g
  go : ∀ κ H σ ρ S d v ρ' S' (Q : L2.St → Hp → Prop), Sim (cx X) κ H σ ρ S → Rep (cx X) κ H d v → b d ρ S = some (ρ', S') →
    (∀ σ' κ' H', Grow κ H κ' H' → Sim (cx X) κ' H' σ' ρ' S' → Q σ' H') → g v σ H Q
def xOf (b : TB) : TX := fun d ρ S => (b d ρ).map fun ρ' => (ρ', S)
theorem dgx_of {X : Cx} {tg : Expr} {vs : List Nat} {b : TB} {g : TG} (h : DG X tg vs b g) : DGX X tg (xOf b) g := ⟨h.pg, fun κ H σ ρ S d v ρ' S' Q s r e q => by
  unfold xOf at e
  obtain ⟨ρ1, e1, e2⟩ := Option.map_eq_some_iff.mp e
  injection e2 with e3 e4
  subst e3 e4
  exact h.go κ H σ ρ S d v ρ1 Q s r e1 fun σ' _ s' => q σ' κ H (.refl _ _) s'⟩
/-- o[i]: o a cell, both without effect -/
def xSub (fo fi : Env' → M Val) : TX := fun d ρ S => match fo ρ S with
  | .ok (.cell n) S1 => match fi ρ S1 with
    | .ok (.d (.int i)) S2 => match S2[n]? with
      | some (.lst xs) => (ixN xs.length i).map fun j => (ρ, S2.set n (.lst (xs.set j d)))
      | _ => none
    | _ => none
  | _ => none
theorem dgx_sub {X : Cx} {o i : Expr} {pos : Pos} {fo fi : Env' → M Val} (ho : DE X W0 o fo) (hi : DE X W0 i fi)
    (ha : ∀ v, assign (.Subscript o i pos) X.env v = (do
      let ov ← holding [v] (eval o X.env)
      let iv ← holding [v, ov] (eval i X.env)
      standAt pos
      holding [v, ov, iv] (setItem ov iv v)
      release [v, ov, iv] []) := by intro _; rfl) : DGX X (.Subscript o i pos) (xSub fo fi) (gSub (Ev (cx X) (relV (cx X)) W0 fo) (Ev (cx X) (relV (cx X)) W0 fi) rSetL) :=
  ⟨pg_sub ho hi set_list ha, fun κ H σ ρ S d v ρ' S' Q s r e q => by
  unfold xSub at e
  split at e
  · rename_i n S1 e1
    split at e
    · rename_i k S2 e2
      split at e
      · rename_i xs e3
        obtain ⟨j, e4, e5⟩ := Option.map_eq_some_iff.mp e
        cases e5
        refine ⟨κ, ρ, S, s, ?_⟩
        rw [e1]
        intro x κ1 H1 g1 c1 r1
        refine ⟨κ1, ρ, S1, s.grow g1 c1, ?_⟩
        rw [e2]
        intro y κ2 H2 g2 c2 r2
        obtain ⟨a, h1, h2⟩ := r1
        have ha2 := g2.get h1
        obtain ⟨us, h3, r3⟩ := c2.ok n _ a e3 ha2
        have hy : y = .int k := Rep.int_iff.mp (show Rep (cx X) κ2 H2 (.int k) y from r2)
        refine ⟨a, us, k, j, h2, hy, h3, by rw [r3.length]; exact e4, ?_⟩
        have gc : Grow κ2 H2 κ2 (upd H2 a (.lst (us.set j v))) := .cell (List.mem_of_getElem? ha2) h3
        have c3 := c2.setc ha2 e3 h3 (r3.set (Rep.grow (g1.trans g2) r) j)
        exact q σ κ2 _ ((g1.trans g2).trans gc) (s.grow ((g1.trans g2).trans gc) c3)
      · cases e
    · cases e
  · cases e⟩
abbrev TXs := List D → Env' → Store → Option (Env' × Store)
def xNil : TXs := fun ds ρ S => match ds with
  | [] => some (ρ, S)
  | _ => none
def xCons (b : TX) (c : TXs) : TXs := fun ds ρ S => match ds with
  | d :: r => (b d ρ S).bind fun p => c r p.1 p.2
  | [] => none
def xTup (n : Nat) (c : TXs) : TX := fun d ρ S => match d with
  | .tup xs => if xs.length = n then c xs ρ S else none
  | _ => none
structure DGXs (X : Cx) (es : List Expr) (b : TXs) (g : TGs) : Prop where
  pg : PGs X es g
  go : ∀ κ H σ ρ S ds us ρ' S' (Q : L2.St → Hp → Prop), Sim (cx X) κ H σ ρ S → RepL (cx X) κ H ds us → b ds ρ S = some (ρ', S') →
    (∀ σ' κ' H', Grow κ H κ' H' → Sim (cx X) κ' H' σ' ρ' S' → Q σ' H') → g us σ H Q
theorem dgxs_nil {X : Cx} : DGXs X [] xNil gNil := ⟨pgs_nil, fun κ H σ ρ S ds us ρ' S' Q s r e h => by
  unfold xNil at e
  split at e
  · cases e
    exact ⟨r.nil_inv, h σ κ H (.refl _ _) s⟩
  · cases e⟩
theorem dgxs_cons {X : Cx} {e : Expr} {es : List Expr} {b : TX} {c : TXs} {g : TG} {u : TGs} (h1 : DGX X e b g) (h2 : DGXs X es c u) (hs : (assignEach (e :: es) X.env).map (·.2) = assign e X.env :: (assignEach es X.env).map (·.2) := by rfl) : DGXs X (e :: es) (xCons b c) (gCons g u) :=
  ⟨pgs_cons h1.pg h2.pg hs, fun κ H σ ρ S ds us ρ' S' Q s r e h => by
  unfold xCons at e
  split at e
  · rename_i d ds'
    obtain ⟨⟨ρ1, S1⟩, e1, e2⟩ := Option.bind_eq_some_iff.mp e
    obtain ⟨v, r', q, rv, rr⟩ := r.cons_inv
    exact ⟨v, r', q, h1.go κ H σ ρ S d v ρ1 S1 _ s rv e1 fun σ1 κ1 H1 g1 s1 => h2.go κ1 H1 σ1 ρ1 S1 ds' r' ρ' S' _ s1 (rr.grow g1) e2 fun σ2 κ2 H2 g2 s2 => h σ2 κ2 H2 (g1.trans g2) s2⟩
  · cases e⟩
theorem dgx_tup {X : Cx} {es : List Expr} {pos : Pos} {c : TXs} {u : TGs} {k n : Nat} (hc : X.calm = true) (h : DGXs X es c u) (hn : (assignEach es X.env).length = n := by rfl) (hst : (assignEach es X.env).findIdx? (·.1) = none := by rfl) : DGX X (.Tuple es k pos) (xTup n c) (gTup X.K n u) :=
  ⟨pg_tup hc h.pg hn hst, fun κ H σ ρ S d v ρ' S' Q s r e hq => by
  unfold xTup at e
  split at e
  · split at e
    · rename_i xs hl
      obtain ⟨a, us, e1, e2, e3⟩ := Rep.tup_iff.mp r
      exact ⟨a, us, e1, .of e2, by rw [e3.length]; exact hl, h.go κ H σ ρ S xs us ρ' S' Q s e3 e hq⟩
    · cases e
  · cases e⟩
def sAsgX (b : TX) (f : Env' → M Val) : SD := fun ρ S => (f ρ S).st ρ fun v ρ' S' => match v with
  | .d d => match b d ρ' S' with
    | some p => .next p.1 p.2
    | none => .bad
  | .cell _ => .bad
section
variable {X : Cx} {W : WX} {pos : Pos} {tg e : Expr} {b : TX} {g : TG} {f : Env' → M Val}
theorem ds_asgX (he : DE X W e f) (hg : DGX X tg b g) (hs : swapsWithSole [tg] e pos.line X.env = pure false := by rfl) (hw : swappedStores [tg] e X.env = pure none := by rfl)
    (h1 : (assignEach [tg] X.env).map (·.2) = [assign tg X.env] := by rfl) : DS X W (.Assign [tg] e pos) (sAsgX b f) := ps_imp (ps_asg he hg.pg hs hw h1) fun D σ H h => by
  obtain ⟨κ, ρ, S, s, p⟩ := h
  obtain ⟨k1, r1, s1, sm, q⟩ := evS_bind (rel := relV (cx X)) s p
  refine ⟨k1, r1, s1, sm, q.mono ?_⟩
  rintro x H1 ⟨κ1, S1, a, g1, sm1, r, p1⟩
  cases a with
  | cell n => exact p1.elim
  | d d =>
    have p1 : PostS (cx X) κ1 H1 (match b d ρ S1 with | some p => .next p.1 p.2 | none => .bad) D W := p1
    split at p1
    · rename_i p eb
      exact hg.go κ1 H1 σ ρ S1 d x p.1 p.2 _ sm1 r eb fun σ' κ' H' g' s' => p1 σ' κ' H' g' s'
    · exact p1.elim
end
/-- x, y = a, b -/
def sPar (i j : Nat) (g : Env' → M (List Val)) : SD := fun ρ S => (g ρ S).st ρ fun vs ρ' S' => match vs with
  | [v, w] => .next ((ρ'.set i (some v)).set j (some w)) S'
  | _ => .bad
def par3 (i j l : Nat) (vs : List Val) : SD := fun ρ' S' => match vs with
  | [v, w, z] => .next (((ρ'.set i (some v)).set j (some w)).set l (some z)) S'
  | _ => .bad
def sPar3 (i j l : Nat) (g : Env' → M (List Val)) : SD := fun ρ S => (g ρ S).st ρ (par3 i j l)
section
variable {X : Cx} {W : WX} {pos px py pz pt pt2 : Pos} {kt k2 : Nat} {x y z : Str} {a b c : Expr} {g : Env' → M (List Val)}
theorem ds_par (i j : Nat) (hc : X.calm = true) (hN : X.N.Nodup) (ha : DA X W [a, b] g) (hi : X.N[i]? = some x := by rfl) (hj : X.N[j]? = some y := by rfl) (hij : i ≠ j := by decide)
    (hx : X.env.scope.names.lookup x = some .local := by rfl) (hy : X.env.scope.names.lookup y = some .local := by rfl)
    (hw : swappedStores [.Tuple [.Name x px, .Name y py] kt pt] (.Tuple [a, b] k2 pt2) X.env = pure (some [x, y]) := by rfl)
    (hs : swapsWithSole [.Tuple [.Name x px, .Name y py] kt pt] (.Tuple [a, b] k2 pt2) pos.line X.env = pure false := by rfl) :
    DS X W (.Assign [.Tuple [.Name x px, .Name y py] kt pt] (.Tuple [a, b] k2 pt2) pos) (sPar i j g) := by
  refine ⟨fun pins s0 σ H D I h1 => (ps_par hc hN hi hj hij hx hy ha hw hs).run pins s0 σ H D I ?_⟩
  obtain ⟨κ, ρ, S, s, p⟩ := h1
  obtain ⟨k1, r1, s1, sm, q⟩ := evS_bind (rel := relVs (cx X)) s p
  refine ⟨k1, r1, s1, sm, q.mono ?_⟩
  rintro us H1 ⟨κ1, S1, vs, g1, sm1, r, p1⟩
  match vs, r, p1 with
  | [v, w], ⟨u, r0, e0, ru, u2, r2, e2, ru2, rn⟩, p1 =>
    rw [show r2 = [] from rn] at e2
    subst e2 e0
    refine ⟨u, u2, rfl, p1 _ κ1 H1 (.refl _ _) ((sm1.set (inv_len I hi) ru).set ?_ ru2)⟩
    rw [List.length_set]; exact inv_len I hj
theorem ds_par3 (i j l : Nat) (hc : X.calm = true) (hN : X.N.Nodup) (ha : DA X W [a, b, c] g) (hi : X.N[i]? = some x := by rfl) (hj : X.N[j]? = some y := by rfl) (hl : X.N[l]? = some z := by rfl) (hij : i ≠ j := by decide) (hil : i ≠ l := by decide) (hjl : j ≠ l := by decide)
    (hx : X.env.scope.names.lookup x = some .local := by rfl) (hy : X.env.scope.names.lookup y = some .local := by rfl) (hz : X.env.scope.names.lookup z = some .local := by rfl)
    (hw : swappedStores [.Tuple [.Name x px, .Name y py, .Name z pz] kt pt] (.Tuple [a, b, c] k2 pt2) X.env = pure (some [x, y, z]) := by rfl)
    (hs : swapsWithSole [.Tuple [.Name x px, .Name y py, .Name z pz] kt pt] (.Tuple [a, b, c] k2 pt2) pos.line X.env = pure false := by rfl) :
    DS X W (.Assign [.Tuple [.Name x px, .Name y py, .Name z pz] kt pt] (.Tuple [a, b, c] k2 pt2) pos) (sPar3 i j l g) := by
  refine ⟨fun pins s0 σ H D I h1 => (ps_par3 hc hN hi hj hl hij hil hjl hx hy hz ha hw hs).run pins s0 σ H D I ?_⟩
  obtain ⟨κ, ρ, S, s, p⟩ := h1
  obtain ⟨k1, r1, s1, sm, q⟩ := evS_bind (rel := relVs (cx X)) s p
  refine ⟨k1, r1, s1, sm, q.mono ?_⟩
  rintro us H1 ⟨κ1, S1, vs, g1, sm1, r, p1⟩
  have p1 : PostS (cx X) κ1 H1 (par3 i j l vs ρ S1) D W := p1
  unfold par3 at p1
  split at p1
  · rename_i v w z'
    obtain ⟨u, r0, e0, ru, h⟩ := r
    obtain ⟨u2, r2, e2, ru2, h⟩ := h
    obtain ⟨u3, r3, e3, ru3, rn⟩ := h
    rw [show r3 = [] from rn] at e3
    subst e3 e2 e0
    refine ⟨u, u2, u3, rfl, p1 _ κ1 H1 (.refl _ _) (((sm1.set (inv_len I hi) ru).set ?_ ru2).set ?_ ru3)⟩
    · rw [List.length_set]; exact inv_len I hj
    · rw [List.length_set, List.length_set]; exact inv_len I hl
  · exact p1.elim
end

/-! ### calls by name -/
/-- the parameters' values out of those written: idx tells for each where it is written -/
def pick {α : Type} (idx : List Nat) (vs : List α) : List α := idx.filterMap (vs[·]?)
theorem Vals.pick {vs : List V} {us : List Value} (r : Vals vs us) : ∀ idx : List Nat, Vals (Dn.pick idx vs) (Dn.pick idx us)
  | [] => .nil
  | i :: idx => by
    have ih := Vals.pick r idx
    unfold Dn.pick at ih ⊢
    rw [List.filterMap_cons, List.filterMap_cons]
    cases h : vs[i]? with
    | none =>
      have : us[i]? = none := by
        rw [List.getElem?_eq_none_iff] at h ⊢
        rw [← r.length]; exact h
      rw [this]; exact ih
    | some v =>
      obtain ⟨u, e, ru⟩ := r.get h
      rw [e]
      exact .cons ru ih
theorem RepVs.pick {C : Ctx} {κ : Ks} {H : Hp} {ds : List Val} {vs : List V} (r : RepVs C κ H ds vs) : ∀ idx : List Nat, RepVs C κ H (Dn.pick idx ds) (Dn.pick idx vs)
  | [] => rfl
  | i :: idx => by
    have ih := RepVs.pick r idx
    unfold Dn.pick at ih ⊢
    rw [List.filterMap_cons, List.filterMap_cons]
    cases h : ds[i]? with
    | none =>
      have : vs[i]? = none := by
        rw [List.getElem?_eq_none_iff] at h ⊢
        rw [r.length]; exact h
      rw [this]; exact ih
    | some v =>
      obtain ⟨u, e, ru⟩ := r.get h
      rw [e]
      exact ⟨u, _, rfl, ru, ih⟩
theorem RepVs.append {C : Ctx} {κ : Ks} {H : Hp} : ∀ {ds es : List Val} {vs us : List V}, RepVs C κ H ds vs → RepVs C κ H es us → RepVs C κ H (ds ++ es) (vs ++ us)
  | [], _, _, _, h, k => by rw [show _ = [] from h]; exact k
  | d :: ds, _, _, _, ⟨v, r, e, h1, h2⟩, k => by rw [e]; exact ⟨v, _, rfl, h1, RepVs.append h2 k⟩
abbrev DK (X : Cx) (W : WX) (ks : List Keyword) (f : Env' → M (List Val)) : Prop := PK X ks (Ev (cx X) (relVs (cx X)) W f)
section
variable {X : Cx} {W : WX} {pos kpos : Pos} {e : Expr} {kws : List Keyword} {nm : Option Str} {f : Env' → M Val} {g gk : Env' → M (List Val)}
theorem dk_nil : DK X W [] dNil := pk_imp pk_nil fun σ H Q h => by
  obtain ⟨κ, ρ, S, s, p⟩ := h
  exact PostG.ok (a := []) (b := []) p s.cells rfl
theorem dk_cons (ha : DE X W e f) (hr : DK X W kws g) : DK X W (⟨nm, e, kpos⟩ :: kws) (dCons f g) := pk_imp (pk_cons ha hr) fun σ H Q h => ev_cons h
def dCallK (den : List Val → M Val) (idx : List Nat) (g gk : Env' → M (List Val)) : Env' → M Val := fun ρ => M.bind (g ρ) fun vs => M.bind (gk ρ) fun ws => den (pick idx (vs ++ ws))
variable {k n m : Nat} {fa : Addr} {fd : FuncData} {ps ks : List Str} {den : List Val → M Val} {x : Str} {p : Pos} {es : List Expr} {idx : List Nat}
theorem run_fnKS {pins : List (Addr × Obj)} {σ : L2.St} {H : Hp} {s : Shared} {Q : VK} {us ws : List Value} {vs zs : List V} {sp : Sp} (F : FnOk X.prog X.w X.K X.mg X.base (L2.CX X.prog X.w) k fa fd ps sp) (hr : Room k X.A)
    (hb : bindArgs fd ⟨us, ks.zip ws⟩ = pure (ps.zip (pick idx (us ++ ws)))) (tk : Takes X W)
    (I : Inv X pins σ H s) (r : Vals vs us) (rz : Vals zs ws) (h : sp (pick idx (vs ++ zs)) H Q (WE W σ)) : wpAny (model X.prog X.w) X.A (call (.ref fa) us (ks.zip ws)) (EP X pins σ Q) X.xe s := by
  have r2 := Vals.pick (r.append rz) idx
  refine wpAny_call (codeAny_mono (F.run X.A X.stack s H ⟨us, ks.zip ws⟩ (pick idx (us ++ ws)) (pick idx (vs ++ zs)) Q (WE W σ) hr I.env0 (.of_eq hb) r2 h) fun r s' hq => ?_)
  cases r with
  | error e => exact passAt tk σ pins H s e s' I hq
  | ok fl =>
    cases fl with
    | ret u => exact I.after hq
    | next => exact False.elim hq
    | brk => exact False.elim hq
    | cont => exact False.elim hq
/-- f(e, .., k = v, ..) -/
theorem de_callK (F : FnOk X.prog X.w X.K X.mg X.base (L2.CX X.prog X.w) k fa fd ps (spD (cx X) m den)) (hr : Room k X.A) (hg : Gl X x) (hm : X.mg x = some (.ref fa)) (hk : PySem.W.keepIn X.K (.ref fa) = true) (tk : Takes X W) (idx : List Nat)
    (hb : ∀ us ws : List Value, us.length = n + 1 → ws.length = ks.length → bindArgs fd ⟨us, ks.zip ws⟩ = pure (ps.zip (pick idx (us ++ ws))))
    (hp : ∀ vs : List V, vs.length = n + 1 + ks.length → (pick idx vs).length = m)
    (ha : DA X W (e :: es) g) (hn : LenA g (n + 1)) (hkw : DK X W kws gk) (hnk : LenA gk ks.length)
    (hall : (backToKw pos (keywordEach kws X.env)).all (·.1.isSome) = true := by rfl) (hks : (backToKw pos (keywordEach kws X.env)).filterMap (·.1) = ks := by rfl)
    (hdb : (x == ("__debug__" : Str)) = false := by decide) (he : starEach (e :: es) X.env = (false, eval e X.env) :: starEach es X.env := by rfl)
    (hpl : ((backTo pos (starEach (e :: es) X.env)).any (·.1) || (backToKw pos (keywordEach kws X.env)).any (·.1.isNone)) = false := by rfl) :
    DE X W (.Call (.Name x p) (e :: es) kws pos) (dCallK den idx g gk) := by
  refine ⟨fun pins s0 σ H Q I h => ?_⟩
  obtain ⟨κ, ρ, S, s, p1⟩ := h
  obtain ⟨k1, r1, S1, sm, q⟩ := Ev.bind (rel1 := relVs (cx X)) s p1
  refine wpAny_Call_Name_kw (ld_glob I hg hm ?_ hdb)
  refine PySem.W.callWith_KW (h₀ := X.base) I.ok.mod.kin hk hall (thn (ha.run pos pins s0 σ H (fun vs H1 => vs.length = n + 1 ∧ ∃ κ1 S1 a, Grow κ H κ1 H1 ∧ Sim (cx X) κ1 H1 σ ρ S1 ∧ relVs (cx X) κ1 H1 a vs ∧ PostG (cx X) (relV (cx X)) κ1 H1 ((gk ρ S1).bind fun ws => den (pick idx (a ++ ws))) Q (WE W σ)) I ⟨k1, r1, S1, sm, ?_⟩) fun us s1 ⟨vs, H1, I1, r, hl, κ1, S1', a, g1, sm1, ra, p2⟩ => ?_) hpl he
  · cases hq : g r1 S1 with
    | ok a S' =>
      rw [hq] at q
      intro b κ' H' g' c' r'
      refine ⟨?_, q b κ' H' g' c' r'⟩
      rw [r'.length]; exact hn r1 S1 a S' hq
    | exc e S' => rw [hq] at q; exact q
    | bad => rw [hq] at q; exact q
  · obtain ⟨k2, r2, S2, sm2, q2⟩ := Ev.bind (rel1 := relVs (cx X)) sm1 p2
    refine thn (hkw.run pos pins s1 σ H1 (fun zs H2 => zs.length = ks.length ∧ ∃ κ2 S2 b, Grow κ1 H1 κ2 H2 ∧ Sim (cx X) κ2 H2 σ ρ S2 ∧ relVs (cx X) κ2 H2 b zs ∧ PostG (cx X) (relV (cx X)) κ2 H2 (den (pick idx (a ++ b)) S2) Q (WE W σ)) I1 ⟨k2, r2, S2, sm2, ?_⟩) fun ws s2 ⟨zs, H2, I2, rz, hl2, κ2, S2', b, g2, sm3, rb, p3⟩ => ⟨I2.kIn, ?_⟩
    · cases hq : gk r2 S2 with
      | ok a S' =>
        rw [hq] at q2
        intro b κ' H' g' c' r'
        refine ⟨?_, q2 b κ' H' g' c' r'⟩
        rw [r'.length]; exact hnk r2 S2 a S' hq
      | exc e S' => rw [hq] at q2; exact q2
      | bad => rw [hq] at q2; exact q2
    · rw [hks]
      refine run_fnKS F hr (hb us ws (by rw [← r.length]; exact hl) (by rw [← rz.length]; exact hl2)) tk I2 r rz ⟨hp _ (by rw [List.length_append, hl, hl2]), κ2, S2', _, sm3.cells, RepVs.pick ((ra.grow g2).append rb) idx, p3⟩
/-- f(k = v, ..) -/
theorem de_callK0 {kw : Keyword} (F : FnOk X.prog X.w X.K X.mg X.base (L2.CX X.prog X.w) k fa fd ps (spD (cx X) m den)) (hr : Room k X.A) (hg : Gl X x) (hm : X.mg x = some (.ref fa)) (hk : PySem.W.keepIn X.K (.ref fa) = true) (tk : Takes X W) (idx : List Nat)
    (hb : ∀ ws : List Value, ws.length = ks.length → bindArgs fd ⟨[], ks.zip ws⟩ = pure (ps.zip (pick idx ws)))
    (hp : ∀ vs : List V, vs.length = ks.length → (pick idx vs).length = m)
    (hkw : DK X W (kw :: kws) gk) (hnk : LenA gk ks.length)
    (hall : (backToKw pos (keywordEach (kw :: kws) X.env)).all (·.1.isSome) = true := by rfl) (hks : (backToKw pos (keywordEach (kw :: kws) X.env)).filterMap (·.1) = ks := by rfl)
    (hdb : (x == ("__debug__" : Str)) = false := by decide)
    (hpl : ((backTo pos (starEach [] X.env)).any (·.1) || (backToKw pos (keywordEach (kw :: kws) X.env)).any (·.1.isNone)) = false := by rfl) :
    DE X W (.Call (.Name x p) [] (kw :: kws) pos) (dCall (fun ws => den (pick idx ws)) gk) := by
  refine ⟨fun pins s0 σ H Q I h => ?_⟩
  obtain ⟨κ, ρ, S, s, p1⟩ := h
  obtain ⟨k1, r1, S1, sm, q⟩ := Ev.bind (rel1 := relVs (cx X)) s p1
  refine wpAny_Call_Name_kw (ld_glob I hg hm ?_ hdb)
  refine PySem.W.callWith_KW0 (h₀ := X.base) I.ok.mod.kin hk hall (thn (hkw.run pos pins s0 σ H (fun zs H2 => zs.length = ks.length ∧ ∃ κ2 S2 b, Grow κ H κ2 H2 ∧ Sim (cx X) κ2 H2 σ ρ S2 ∧ relVs (cx X) κ2 H2 b zs ∧ PostG (cx X) (relV (cx X)) κ2 H2 (den (pick idx b) S2) Q (WE W σ)) I ⟨k1, r1, S1, sm, ?_⟩) fun ws s2 ⟨zs, H2, I2, rz, hl2, κ2, S2', b, g2, sm3, rb, p3⟩ => ⟨I2.kIn, ?_⟩) hpl
  · cases hq : gk r1 S1 with
    | ok a S' =>
      rw [hq] at q
      intro b κ' H' g' c' r'
      refine ⟨?_, q b κ' H' g' c' r'⟩
      rw [r'.length]; exact hnk r1 S1 a S' hq
    | exc e S' => rw [hq] at q; exact q
    | bad => rw [hq] at q; exact q
  · rw [hks]
    exact run_fnKS (us := []) (vs := []) F hr (hb ws (by rw [← rz.length]; exact hl2)) tk I2 .nil rz ⟨hp _ hl2, κ2, S2', _, sm3.cells, RepVs.pick rb idx, p3⟩
end
end Dn

/-! Dn8: defs by data, the law's end. -/
namespace Dn
open PySem PySem.Spec PyProof.Rows L2

section
variable {P : Program} {w : World} {K : PySem.W.Frag} {mg : Str → Option Value} {base : Heap} {x qual : Str} {params : Arguments} {body : List Stmt} {scope : Scope} {f : Addr} {fd : FuncData}
theorem okFD {N ps : List Str} {k : Nat} {bd : SD} (F : FunD K x qual params body scope [] [] f fd) (S : FnScope N ps scope)
    (hbody : ∀ (cdv : Value) (A : Around) (outer : List Env) (s : Shared) (H : Hp) (E : XK), Room k (A.deeper (envOfC qual scope s.heap.objs.size f cdv)) →
      DSs (cxOf (L2.CX P w) P w K mg base N qual scope f cdv A outer s H E) (fun cls d _ H => E cls d H) body bd) :
    FnOk P w K mg base (L2.CX P w) (k + 1) f fd ps (spD ⟨K, mg⟩ ps.length (runF N.length bd)) :=
  F.ok S (fun vs H Q E h => h.1) fun cdv A outer s H vs Q E hr hsp => by
  refine ⟨_, hbody cdv A outer s H E hr, ?_⟩
  obtain ⟨hl, κ, S0, ds, c, r, p⟩ := hsp
  refine ⟨κ, envOf N.length ds, S0, sim_start c r, ?_⟩
  unfold runF at p
  cases q : bd (envOf N.length ds) S0 with
  | next ρ' S' => rw [q] at p; exact fun σ' κ' H' g s' => exit_post c g s'.cells RepV.non p
  | ret v S' => rw [q] at p; exact fun u κ' H' g c' r' => exit_post c g c' r' p
  | exc e ρ' S' =>
    rw [q] at p
    exact fun cls dd σ' κ' H' g s' r' => by
      obtain ⟨g0, c0, le⟩ := exit_ks c g s'.cells
      exact p cls dd _ H' g0 c0 (r'.less le)
  | brk ρ' S' => rw [q] at p; exact p.elim
  | cont ρ' S' => rw [q] at p; exact p.elim
  | bad => rw [q] at p; exact p.elim
/-- .. whose new cells stay -/
theorem okKD {N ps : List Str} {k : Nat} {bd : SD} (F : FunD K x qual params body scope [] [] f fd) (S : FnScope N ps scope)
    (hbody : ∀ (cdv : Value) (A : Around) (outer : List Env) (s : Shared) (H : Hp) (E : XK), Room k (A.deeper (envOfC qual scope s.heap.objs.size f cdv)) →
      DSs (cxOf (L2.CX P w) P w K mg base N qual scope f cdv A outer s H E) (fun cls d _ H => E cls d H) body bd) :
    FnOk P w K mg base (L2.CX P w) (k + 1) f fd ps (spD ⟨K, mg⟩ ps.length (runK N.length bd)) :=
  F.ok S (fun vs H Q E h => h.1) fun cdv A outer s H vs Q E hr hsp => by
  refine ⟨_, hbody cdv A outer s H E hr, ?_⟩
  obtain ⟨hl, κ, S0, ds, c, r, p⟩ := hsp
  refine ⟨κ, envOf N.length ds, S0, sim_start c r, ?_⟩
  unfold runK at p
  cases q : bd (envOf N.length ds) S0 with
  | next ρ' S' => rw [q] at p; exact fun σ' κ' H' g s' => p .non κ' H' g s'.cells RepV.non
  | ret v S' => rw [q] at p; exact p
  | exc e ρ' S' => rw [q] at p; exact fun cls dd σ' κ' H' g s' r' => p cls dd κ' H' g s'.cells r'
  | brk ρ' S' => rw [q] at p; exact p.elim
  | cont ρ' S' => rw [q] at p; exact p.elim
  | bad => rw [q] at p; exact p.elim
/-- a promise that is never asked for -/
def denBad : List Val → M Val := fun _ => M.bad
theorem okBad {N ps : List Str} {k : Nat} (F : FunD K x qual params body scope [] [] f fd) (S : FnScope N ps scope) : FnOk P w K mg base (L2.CX P w) (k + 1) f fd ps (spD ⟨K, mg⟩ ps.length denBad) :=
  F.ok S (fun vs H Q E h => h.1) fun cdv A outer s H vs Q E hr hsp => by
  obtain ⟨hl, κ, S0, ds, c, r, p⟩ := hsp
  exact p.elim
theorem kbD {ps ks : List Str} {n : Nat} {g : {α : Type} → List α → List α} (F : FunD K x qual params body scope [] [] f fd)
    (h : ∀ (kV doc pm : Value) (an : Option Addr) (cdv ct : Value) (us ws : List Value), us.length = n → ws.length = ks.length → bindArgs (PySem.W.fnOf x qual params body scope .none kV doc pm an cdv ct) ⟨us, ks.zip ws⟩ = pure (ps.zip (g (us ++ ws)))) :
    ∀ us ws : List Value, us.length = n → ws.length = ks.length → bindArgs fd ⟨us, ks.zip ws⟩ = pure (ps.zip (g (us ++ ws))) := by
  obtain ⟨oc, od, dV, kV, doc, pm, an, cdv, ct, osl, rfl, lk, hcd, hD, hK⟩ := F.ex
  rcases hD with ⟨_, rfl⟩ | ⟨e, _⟩
  · exact h kV doc pm an cdv ct
  · exact absurd rfl e
theorem kbD0 {ps ks : List Str} {g : {α : Type} → List α → List α} (F : FunD K x qual params body scope [] [] f fd)
    (h : ∀ (kV doc pm : Value) (an : Option Addr) (cdv ct : Value) (ws : List Value), ws.length = ks.length → bindArgs (PySem.W.fnOf x qual params body scope .none kV doc pm an cdv ct) ⟨[], ks.zip ws⟩ = pure (ps.zip (g ws))) :
    ∀ ws : List Value, ws.length = ks.length → bindArgs fd ⟨[], ks.zip ws⟩ = pure (ps.zip (g ws)) := by
  obtain ⟨oc, od, dV, kV, doc, pm, an, cdv, ct, osl, rfl, lk, hcd, hD, hK⟩ := F.ex
  rcases hD with ⟨_, rfl⟩ | ⟨e, _⟩
  · exact h kV doc pm an cdv ct
  · exact absurd rfl e
end

section
variable {X : Cx} {W : WX} {pos : Pos} {e : Expr}
/-- return a new list, a cell from now on -/
def sRetC (f : Env' → M (List D)) : SD := fun ρ S => (f ρ S).st ρ fun xs _ S' => .ret (.cell S'.length) (S' ++ [.lst xs])
theorem ds_retC {fn : Env' → M (List D)} (he : DN X W e fn) : DS X W (.Return (some e) pos) (sRetC fn) := ps_imp (ps_ret he) fun D σ H h => by
  obtain ⟨κ, ρ, S, s, p⟩ := h
  refine ⟨κ, ρ, S, s, ?_⟩
  unfold sRetC at p
  cases q : fn ρ S with
  | ok xs S' =>
    rw [q] at p
    intro a vs κ' H' g n m l c r
    have c2 := c.push (x := .lst xs) m ⟨vs, l, r⟩
    have g2 : Grow κ H (κ'.push a) H' := by
      refine ⟨?_, g.more, g.held, g.keep, fun b m' n' => ?_, g.there, g.tups, g.frzs⟩
      · obtain ⟨l', e⟩ := g.pre
        exact ⟨l' ++ [a], by show κ'.cells ++ [a] = _; rw [e, List.append_assoc]⟩
      · rcases List.mem_append.mp m' with z | z
        · exact g.new b z n'
        · rw [List.mem_singleton.mp z]; exact n
    refine p _ (κ'.push a) H' g2 c2 ⟨a, ?_, rfl⟩
    show (κ'.cells ++ [a])[S'.length]? = some a
    rw [List.getElem?_append_right (by rw [← c.len]; exact Nat.le_refl _), ← c.len]
    show [a][κ'.cells.length - κ'.cells.length]? = some a
    rw [Nat.sub_self]
    rfl
  | exc e S' => rw [q] at p; exact fun cl dd κ1 H1 g c r => p cl dd σ κ1 H1 g (s.grow g c) r
  | bad => rw [q] at p; exact p
end
/-- a call of a callee that keeps its cells is a call -/
theorem dt_w {X : Cx} {W : WX} {e : Expr} {f : Env' → M Bool} (h : DW X W e f) : DT X W e f := h.pt
theorem dv {X : Cx} {W : WX} (i : Nat) {x : Str} {pos : Pos} (hN : X.N[i]? = some x := by rfl) (hv : Vis X.env.scope x := by first | exact Or.inl rfl | exact Or.inr (Or.inl rfl) | exact Or.inr (Or.inr rfl)) (hd : (x == ("__debug__" : Str)) = false := by decide)
    (hcd : (x == ("__classdict__" : Str)) = false := by decide) : DE X W (.Name x pos) (dVar i) := de_var i (pv i hN hv hd hcd)
theorem de_gintE {X : Cx} {W : WX} {pos : Pos} {x : Str} {i : Int} (hg : Gl X x) (hm : ∃ t, X.mg x = some (.int i t)) (hd : (x == ("__debug__" : Str)) = false := by decide) : DE X W (.Name x pos) (dC (.int i)) :=
  let ⟨_, h⟩ := hm; de_gint hg h hd
theorem de_gstrE {X : Cx} {W : WX} {pos : Pos} {x z : Str} (hg : Gl X x) (hm : ∃ t, X.mg x = some (.str z t)) (hd : (x == ("__debug__" : Str)) = false := by decide) : DE X W (.Name x pos) (dC (.str z)) :=
  let ⟨_, h⟩ := hm; de_gstr hg h hd

/-! ### the law's start and end -/
theorem scrOk_only {K : PySem.W.Frag} {H : Hp} {a : Addr} {ns : List Int} (ho : Only H) (hs : SqL K H a (ns.map V.int)) : ScrOk K H a ns := by
  rcases hs with (h | ⟨o, h⟩) | h
  · rcases ho a with q | ⟨o, xs, q⟩
    · rw [h] at q; cases q
    · rw [h] at q; cases q
  · exact .inl ⟨o, h⟩
  · exact .inr h
theorem law_start {K : PySem.W.Frag} {mg : Str → Option Value} {H : Hp} {a : Addr} {ns : List Int} {den : List Val → M Val} (ho : Only H) (hs : SqL K H a (ns.map V.int)) {S' : Store} (h : den [.d (.scr ns)] [] = .ok (.d (.bl true)) S') :
    spD ⟨K, mg⟩ 1 den [.ref a] H (fun v _ => v = .bl true) fun _ _ _ => False := by
  refine ⟨rfl, ⟨[], []⟩, [], [.d (.scr ns)], ⟨rfl, List.nodup_nil, fun n c a e => by simp at e, fun a m => by simp at m⟩, ⟨.ref a, [], rfl, (Rep.scr_iff (κ := ⟨[], []⟩)).mpr ⟨a, rfl, scrOk_only ho hs⟩, rfl⟩, ?_⟩
  rw [h]
  intro b κ' H' g c r
  exact (Rep.bl_iff (C := ⟨K, mg⟩) (κ := κ') (H := H')).mp r
theorem hCX {P : Program} {w : World} (H : Hp) (s : Shared) (e : Value) (s' : Shared) (h : L2.CX P w [] H s (fun _ _ _ => False) e s') : False := by
  obtain ⟨_, _, _, _, _, _, _, _, _, _, _, _, z⟩ := h
  exact z
/-- the walk of a law whose def may let exceptions out -/
theorem walkW {l : PySem.W.OpenLaw} {n k : Nat} {q : Program} {loose : List Str} {XP : (Str → Option Value) → Heap → Prop} {YP : World → Heap → Prop} {d : DefRec} {x : Str}
    (hn : l.most = some n) (hn2 : n ≤ sizeLine) (hdf : d.params.defaults = []) (hr : Room k callerA)
    (F : ∀ (w : World) (mg : Str → Option Value) (fa : Addr) (h : Heap), YP w h → h.Ns mainGlobals mg → mg d.name = some (.ref fa) →
      ∃ (K : PySem.W.Frag) (fd : FuncData) (sp : Sp), K.In h ∧ (∀ (s : Shared) (u : Value), BindsTo s fd ⟨[u], []⟩ [(x, u)]) ∧
        (∀ (H : Hp) (a : Addr) (ns : List Int), ns.length ≤ n → Only H → SqL K H a (ns.map V.int) → sp [.ref a] H (fun v _ => v = .bl true) fun _ _ _ => False) ∧
        ∀ base : Heap, K.In base → base.Ns mainGlobals mg → FnOk l.prog w K mg base (L2.CX l.prog w) k fa fd [x] sp) :
    PySem.W.WalkO q loose XP YP l.row.toRowW d [] (fun f vs => PySem.call f vs) := by
  refine Att.attach_call hn hdf fun w s₀ s₁ mg mb fa o pm cd doc a vs ns G Y ho hd hcd hmg hobj hints hlen hg => ?_
  obtain ⟨K, fd, sp, KX, hb, hsp, hF⟩ := F w mg fa _ Y G.T.g hmg
  exact law_call KX G.T.g G.T.b G.T.builtins G.T.nolimit hg hobj hints (Nat.le_trans hlen hn2) hr hF hb (fun H hO hS => hsp H a ns hlen hO hS) fun H e s' => hCX H s₁ e s'
end Dn

/-! Dn9: new lists that become cells inside an expression; more new lists. -/
namespace Dn
open PySem PySem.Spec PyProof.Rows L2
/-- a new list, a cell from now on -/
def dNC (f : Env' → M (List D)) : Env' → M Val := fun ρ => M.bind (f ρ) fun xs S => .ok (.cell S.length) (S ++ [.lst xs])
theorem Grow.push {κ κ' : Ks} {H H' : Hp} {a : Addr} (g : Grow κ H κ' H') (n : H a = none) : Grow κ H (κ'.push a) H' := by
  refine ⟨?_, g.more, g.held, g.keep, fun b m' n' => ?_, g.there, g.tups, g.frzs⟩
  · obtain ⟨l', e⟩ := g.pre
    exact ⟨l' ++ [a], by show κ'.cells ++ [a] = _; rw [e, List.append_assoc]⟩
  · rcases List.mem_append.mp m' with z | z
    · exact g.new b z n'
    · rw [List.mem_singleton.mp z]; exact n
theorem push_at {κ : Ks} {S : Store} {C : Ctx} {H : Hp} {a : Addr} {p : Addr} (c : Cells C (κ.ex p) H S) : (κ.push a).cells[S.length]? = some a := by
  have hl : κ.cells.length = S.length := c.len
  show (κ.cells ++ [a])[S.length]? = some a
  rw [List.getElem?_append_right (by omega), hl, Nat.sub_self]
  rfl
theorem ev_NC {C : Ctx} {W : WX} {f : Env' → M (List D)} {σ : L2.St} {H : Hp} {Q : VK} (h : Ev C (relV C) W (dNC f) σ H Q) : EvN C W f σ H Q := by
  obtain ⟨κ, ρ, S, s, p⟩ := h
  refine ⟨κ, ρ, S, s, ?_⟩
  unfold dNC M.bind at p
  cases q : f ρ S with
  | ok xs S' =>
    rw [q] at p
    intro a vs κ' H' g n m l c r
    exact p (.ref a) (κ'.push a) H' (g.push n) (c.push (x := .lst xs) m ⟨vs, l, r⟩) ⟨a, push_at c, rfl⟩
  | exc e S' => rw [q] at p; exact p
  | bad => rw [q] at p; exact p
theorem de_NC {X : Cx} {W : WX} {e : Expr} {f : Env' → M (List D)} (h : DN X W e f) : DE X W e (dNC f) := pe_imp h fun _ _ _ => ev_NC

/-! ### list(range(..)), tuple(range(..)) -/
theorem repL_rng {C : Ctx} {κ : Ks} {H : Hp} (a b : Int) : RepL C κ H (rngD a (b - a).toNat) (rgV a b) := by
  have := RepL.of_ints (C := C) (κ := κ) (H := H) ((List.range (b - a).toNat).map fun i : Nat => a + (i : Int))
  rw [List.map_map, List.map_map] at this
  exact this
def rgL (a b : Int) : M (List D) := fun S => if decide (-1000000 ≤ a ∧ a ≤ 1000000 ∧ -1000000 ≤ b ∧ b ≤ 1000000) then .ok (rngD a (b - a).toNat) S else .bad
theorem rgOk_of {a b : Int} (h : decide (-1000000 ≤ a ∧ a ≤ 1000000 ∧ -1000000 ≤ b ∧ b ≤ 1000000) = true) : RgOk a b := by
  have := of_decide_eq_true h
  exact ⟨by omega, by omega, by omega, by omega, by omega⟩
def rgA (v : Val) : M (List D) := match v with
  | .d (.int j) => rgL 0 j
  | _ => M.bad
def rgB (u v : Val) : M (List D) := match u, v with
  | .d (.int i), .d (.int j) => rgL i j
  | _, _ => M.bad
def nRg1 (fa : Env' → M Val) : Env' → M (List D) := fun ρ => M.bind (fa ρ) fun a => rgA a
def nRg2 (fa fb : Env' → M Val) : Env' → M (List D) := fun ρ => M.bind (fa ρ) fun a => M.bind (fb ρ) fun b => rgB a b
def tupOf (xs : List D) : M Val := fun S => .ok (.d (.tup xs)) S
/-- a tuple of what a new list would hold -/
def dTupN (f : Env' → M (List D)) : Env' → M Val := fun ρ => M.bind (f ρ) tupOf
section
variable {X : Cx} {W : WX} {a b : Expr} {fa fb : Env' → M Val} {p p2 pos pos2 : Pos}
theorem rg1_go {C : Ctx} {σ : L2.St} {H : Hp} {k : M Val → M Val} {R : Int → Int → Hp → Prop} {κ : Ks} {ρ : Env'} {S : Store} {E : XK} {Q : V → Hp → Prop} (s : Sim C κ H σ ρ S)
    (h : PostN C κ H (nRg1 fa ρ S) Q (fun c d H' => W c d σ H')) : tRg1 (Ev C (relV C) W fa) σ H fun a b H1 => RgOk a b ∧ ∀ q, H1 q = none → Q (.ref q) (upd H1 q (.lst (rgV a b))) := by
  obtain ⟨k1, r1, s1, sm, q⟩ := EvN.bind (rel1 := relV C) s h
  refine ⟨k1, r1, s1, sm, q.mono ?_⟩
  rintro x H1 ⟨κ1, S1, v, g1, sm1, rx, p1⟩
  unfold rgA at p1
  split at p1
  · rename_i j
    unfold rgL at p1
    split at p1
    · rename_i hz
      exact ⟨j, Rep.int_iff.mp (show Rep C κ1 H1 (.int j) x from rx), rgOk_of hz, fun p hp => postN_laid (.refl _ _) sm1.cells (repL_rng _ _) hp p1⟩
    · exact p1.elim
  · exact p1.elim
theorem rg2_go {C : Ctx} {σ : L2.St} {H : Hp} {κ : Ks} {ρ : Env'} {S : Store} {Q : V → Hp → Prop} (s : Sim C κ H σ ρ S)
    (h : PostN C κ H (nRg2 fa fb ρ S) Q (fun c d H' => W c d σ H')) : tRg2 (Ev C (relV C) W fa) (Ev C (relV C) W fb) σ H fun a b H1 => RgOk a b ∧ ∀ q, H1 q = none → Q (.ref q) (upd H1 q (.lst (rgV a b))) := by
  obtain ⟨k1, r1, s1, sm, q⟩ := EvN.bind (rel1 := relV C) s h
  refine ⟨k1, r1, s1, sm, q.mono ?_⟩
  rintro x H1 ⟨κ1, S1, v, g1, sm1, rx, p1⟩
  obtain ⟨k2, r2, s2, sm2, q2⟩ := EvN.bind (rel1 := relV C) sm1 p1
  refine ⟨k2, r2, s2, sm2, q2.mono ?_⟩
  rintro y H2 ⟨κ2, S2, u, g2, sm2, ry, p2⟩
  unfold rgB at p2
  split at p2
  · rename_i i j
    unfold rgL at p2
    split at p2
    · rename_i hz
      exact ⟨i, j, Rep.int_iff.mp (show Rep C κ2 H2 (.int i) x from rx.grow g2), Rep.int_iff.mp (show Rep C κ2 H2 (.int j) y from ry), rgOk_of hz, fun p hp => postN_laid (.refl _ _) sm2.cells (repL_rng _ _) hp p2⟩
    · exact p2.elim
  · exact p2.elim
theorem dn_listRg1 (hc : X.calm = true) (hg : Gl X "list") (hm : X.mg "list" = none) (hg2 : Gl X "range") (hm2 : X.mg "range" = none) (ha : DE X W a fa) (na : starEach [a] X.env = (false, eval a X.env) :: starEach [] X.env := by rfl)
    (nb : starEach [.Call (.Name "range" p2) [a] [] pos2] X.env = (false, eval (.Call (.Name "range" p2) [a] [] pos2) X.env) :: starEach [] X.env := by rfl) :
    DN X W (.Call (.Name "list" p) [.Call (.Name "range" p2) [a] [] pos2] [] pos) (nRg1 fa) := pe_imp (pe_listRg hc hg hm (prg_1 hg2 hm2 ha na) nb) fun σ H Q h => by
  obtain ⟨κ, ρ, S, s, p⟩ := h
  exact rg1_go (k := id) (R := fun _ _ _ => True) (E := fun _ _ _ => True) s p
theorem dn_listRg2 (hc : X.calm = true) (hg : Gl X "list") (hm : X.mg "list" = none) (hg2 : Gl X "range") (hm2 : X.mg "range" = none) (ha : DE X W a fa) (hb : DE X W b fb) (na : starEach [a, b] X.env = (false, eval a X.env) :: starEach [b] X.env := by rfl)
    (na2 : starEach [b] X.env = (false, eval b X.env) :: starEach [] X.env := by rfl) (hp : (backTo pos2 (starEach [b] X.env)).any (·.1) = false := by rfl)
    (nb : starEach [.Call (.Name "range" p2) [a, b] [] pos2] X.env = (false, eval (.Call (.Name "range" p2) [a, b] [] pos2) X.env) :: starEach [] X.env := by rfl) :
    DN X W (.Call (.Name "list" p) [.Call (.Name "range" p2) [a, b] [] pos2] [] pos) (nRg2 fa fb) := pe_imp (pe_listRg hc hg hm (prg_2 hg2 hm2 ha hb na na2 hp) nb) fun σ H Q h => by
  obtain ⟨κ, ρ, S, s, p⟩ := h
  exact rg2_go s p
theorem de_tupRg1 (hc : X.calm = true) (hg : Gl X "tuple") (hm : X.mg "tuple" = none) (hg2 : Gl X "range") (hm2 : X.mg "range" = none) (ha : DE X W a fa) (na : starEach [a] X.env = (false, eval a X.env) :: starEach [] X.env := by rfl)
    (nb : starEach [.Call (.Name "range" p2) [a] [] pos2] X.env = (false, eval (.Call (.Name "range" p2) [a] [] pos2) X.env) :: starEach [] X.env := by rfl) :
    DE X W (.Call (.Name "tuple" p) [.Call (.Name "range" p2) [a] [] pos2] [] pos) (dTupN (nRg1 fa)) := pe_imp (pe_tupRg hc hg hm (prg_1 hg2 hm2 ha na) nb) fun σ H Q h => by
  obtain ⟨κ, ρ, S, s, p⟩ := h
  have p : PostG (cx X) (relV (cx X)) κ H ((fa ρ S).bind fun a => M.bind (rgA a) tupOf) Q (fun c d H' => W c d σ H') := by
    have e : dTupN (nRg1 fa) ρ S = (fa ρ S).bind fun a => M.bind (rgA a) tupOf := by
      unfold dTupN nRg1 M.bind
      cases fa ρ S <;> rfl
    rw [← e]; exact p
  obtain ⟨k1, r1, s1, sm, q⟩ := Ev.bind (rel1 := relV (cx X)) s p
  refine ⟨k1, r1, s1, sm, q.mono ?_⟩
  rintro x H1 ⟨κ1, S1, v, g1, sm1, rx, p1⟩
  unfold rgA M.bind at p1
  split at p1
  · rename_i j
    unfold rgL at p1
    split at p1
    · rename_i hz
      exact ⟨j, Rep.int_iff.mp (show Rep (cx X) κ1 H1 (.int j) x from rx), rgOk_of hz, fun p hp => new_tup sm1.cells (repL_rng _ _) hp p1⟩
    · exact p1.elim
  · exact p1.elim
theorem de_tupRg2 (hc : X.calm = true) (hg : Gl X "tuple") (hm : X.mg "tuple" = none) (hg2 : Gl X "range") (hm2 : X.mg "range" = none) (ha : DE X W a fa) (hb : DE X W b fb) (na : starEach [a, b] X.env = (false, eval a X.env) :: starEach [b] X.env := by rfl)
    (na2 : starEach [b] X.env = (false, eval b X.env) :: starEach [] X.env := by rfl) (hp : (backTo pos2 (starEach [b] X.env)).any (·.1) = false := by rfl)
    (nb : starEach [.Call (.Name "range" p2) [a, b] [] pos2] X.env = (false, eval (.Call (.Name "range" p2) [a, b] [] pos2) X.env) :: starEach [] X.env := by rfl) :
    DE X W (.Call (.Name "tuple" p) [.Call (.Name "range" p2) [a, b] [] pos2] [] pos) (dTupN (nRg2 fa fb)) := pe_imp (pe_tupRg hc hg hm (prg_2 hg2 hm2 ha hb na na2 hp) nb) fun σ H Q h => by
  obtain ⟨κ, ρ, S, s, p⟩ := h
  have p : PostG (cx X) (relV (cx X)) κ H ((fa ρ S).bind fun a => M.bind (fb ρ) fun b => M.bind (rgB a b) tupOf) Q (fun c d H' => W c d σ H') := by
    have e : dTupN (nRg2 fa fb) ρ S = (fa ρ S).bind fun a => M.bind (fb ρ) fun b => M.bind (rgB a b) tupOf := by
      unfold dTupN nRg2 M.bind
      cases fa ρ S with
      | ok v S' => simp only [Out.bind]; cases fb ρ S' <;> rfl
      | exc _ _ => rfl
      | bad => rfl
    rw [← e]; exact p
  obtain ⟨k1, r1, s1, sm, q⟩ := Ev.bind (rel1 := relV (cx X)) s p
  refine ⟨k1, r1, s1, sm, q.mono ?_⟩
  rintro x H1 ⟨κ1, S1, v, g1, sm1, rx, p1⟩
  obtain ⟨k2, r2, s2, sm2, q2⟩ := Ev.bind (rel1 := relV (cx X)) sm1 p1
  refine ⟨k2, r2, s2, sm2, q2.mono ?_⟩
  rintro y H2 ⟨κ2, S2, u, g2, sm2, ry, p2⟩
  unfold rgB M.bind at p2
  split at p2
  · rename_i i j
    unfold rgL at p2
    split at p2
    · rename_i hz
      exact ⟨i, j, Rep.int_iff.mp (show Rep (cx X) κ2 H2 (.int i) x from rx.grow g2), Rep.int_iff.mp (show Rep (cx X) κ2 H2 (.int j) y from ry), rgOk_of hz, fun p hp => new_tup sm2.cells (repL_rng _ _) hp p2⟩
    · exact p2.elim
  · exact p2.elim
end

/-! ### pop(i) -/
def popAtC (n : Nat) (v : Val) : M Val := fun S => match S[n]?, v with
  | some (.lst xs), .d (.int i) => if small62 i then match seqIndex? i xs.length with
    | some k => match xs[k]? with
      | some x => .ok (.d x) (S.set n (.lst (xs.eraseIdx k)))
      | none => .bad
    | none => .bad
    else .bad
  | _, _ => .bad
def dPopAt (fo fx : Env' → M Val) : Env' → M Val := fun ρ => M.bind (fo ρ) fun v => M.bind (lstC v) fun n => M.bind (fx ρ) fun a => popAtC n a
theorem RepL.erase {C : Ctx} {κ : Ks} {H : Hp} : ∀ {ds : List D} {vs : List V} (k : Nat), RepL C κ H ds vs → RepL C κ H (ds.eraseIdx k) (vs.eraseIdx k)
  | [], _, k, h => by rw [h.nil_inv]; exact .nil
  | d :: ds, _, 0, h => by
    obtain ⟨v, r, q, h1, h2⟩ := h.cons_inv
    subst q
    exact h2
  | d :: ds, _, k + 1, h => by
    obtain ⟨v, r, q, h1, h2⟩ := h.cons_inv
    subst q
    exact .cons h1 (RepL.erase k h2)
section
variable {X : Cx} {W : WX} {apos cpos : Pos} {o e : Expr} {fo fx : Env' → M Val}
theorem de_popAt (slot : Slot "list" "pop" "list.pop" := by exact F.slot_list_pop) (pa : PlainAttrs "list") (hty : typeOf (.builtin "list.pop") = pure (.type "method_descriptor")) (ho : DE X W o fo) (hx : DE X W e fx)
    (hbase : attributeBase o "pop" X.env (eval o X.env) = eval o X.env := by rfl)
    (hfew : ((backTo cpos (starEach [e] X.env)).all (fun x => !x.1) && (backToKw cpos (keywordEach [] X.env)).all (fun x => x.1.isSome)
      && decide ([e].length + ([] : List Keyword).length + (if ([] : List Keyword).isEmpty then 0 else 1) < 30)) = true := by rfl)
    (hline : (apos.endLine == cpos.line) = true := by rfl) (hs : starEach [e] X.env = (false, eval e X.env) :: starEach [] X.env := by rfl) (hplain : (backTo cpos (starEach [] X.env)).any (·.1) = false := by rfl) :
    DE X W (.Call (.Attribute o "pop" apos) [e] [] cpos) (dPopAt fo fx) := pe_imp (pe_bm pa slot hty mt_popAt ho (pa_cons hx pa_nil hs) hbase hfew hline hs hplain) fun σ H Q h => by
  obtain ⟨κ, ρ, S, s, p⟩ := h
  obtain ⟨k1, r1, s1, sm, q⟩ := Ev.bind (rel1 := relV (cx X)) s p
  refine ⟨k1, r1, s1, sm, q.mono ?_⟩
  rintro x H1 ⟨κ1, S1, v, g1, sm1, rx, p1⟩
  obtain ⟨n, a, vs, ev, ha, ex, hl, p2⟩ := lstC_post sm1.cells rx p1
  subst ev ex
  refine ⟨.inl ⟨rfl, vs, .inl (.inl hl)⟩, arg_one ?_⟩
  obtain ⟨k2, r2, s2, sm2, q2⟩ := Ev.bind (rel1 := relV (cx X)) sm1 p2
  refine ⟨k2, r2, s2, sm2, q2.mono ?_⟩
  rintro y H2 ⟨κ2, S2, w, g2, sm2, ry, p3⟩
  unfold popAtC at p3
  split at p3
  · rename_i xs i q
    split at p3
    · rename_i hz
      have hz := of_decide_eq_true hz
      split at p3
      · rename_i k hk
        split at p3
        · rename_i z hx
          have ha2 := g2.get ha
          obtain ⟨us, h3, r3⟩ := sm2.cells.ok n _ a q ha2
          obtain ⟨t, h5, h6⟩ := r3.get hx
          have gc : Grow κ2 H2 κ2 (upd H2 a (.lst (us.eraseIdx k))) := .cell (List.mem_of_getElem? ha2) h3
          refine ⟨a, us, i, k, t, rfl, by rw [Rep.int_iff.mp (show Rep (cx X) κ2 H2 (.int i) y from ry)], h3, by omega, by omega, by rw [r3.length]; exact hk, h5, ?_⟩
          exact p3 t κ2 _ gc (sm2.cells.setc ha2 q h3 (r3.erase k)) (Rep.grow gc h6)
        · exact p3.elim
      · exact p3.elim
    · exact p3.elim
  · exact p3.elim
end
end Dn

/-! Dn10: two fors in one comprehension; `is` of truths. -/
namespace Dn
open PySem PySem.Spec PyProof.Rows L2
/-! ### is, is not, of truths -/
def isBlD (a b : D) : Option D := match a, b with
  | .bl x, .bl y => some (.bl (decide (x = y)))
  | _, _ => none
def notBlD (a b : D) : Option D := match a, b with
  | .bl x, .bl y => some (.bl (!decide (x = y)))
  | _, _ => none
section
variable {X : Cx}
theorem oD_isBl : OpR X (compareOp .Is) (rD2 (cx X) isBlD) := by
  intro pins s σ H x y v u Q I rx ry h
  obtain ⟨κ, S, dx, dy, z, c, hx, hy, e, q⟩ := h
  unfold isBlD at e
  split at e
  · rename_i a b
    cases e
    exact op_is_bl pins s σ H x y v u Q I rx ry ⟨a, b, RepR.bl hx, RepR.bl hy, want c q repBl⟩
  · cases e
theorem oD_notBl : OpR X (compareOp .IsNot) (rD2 (cx X) notBlD) := by
  intro pins s σ H x y v u Q I rx ry h
  obtain ⟨κ, S, dx, dy, z, c, hx, hy, e, q⟩ := h
  unfold notBlD at e
  split at e
  · rename_i a b
    cases e
    exact op_isnot_bl pins s σ H x y v u Q I rx ry ⟨a, b, RepR.bl hx, RepR.bl hy, want c q repBl⟩
  · cases e
end
/-! ### [elt for .. in .. if .. for .. in .. if ..] -/
open Classical in
/-- the inner loop: what is made goes to cell n; k: what comes then -/
noncomputable def lcI (n : Nat) (w : Walk) (b : TB) (cond : Env' → M Bool) (elt : Env' → M Val) (ρ : Env') (k : M (List D)) : List D → M (List D)
  | [] => fun S => if w.live S then k S else .bad
  | x :: xs => fun S => if w.live S then (match b x ρ with
      | none => .bad
      | some ρ1 => (cond ρ1 S).bnd fun c S1 => if c = true then ((elt ρ1 S1).bnd fun v S2 => (dat v S2).bnd fun d S3 => (appC n (.d d) S3).bnd fun _ S4 => lcI n w b cond elt ρ k xs S4)
          else lcI n w b cond elt ρ k xs S1) else .bad
def takeC (n : Nat) : M (List D) := fun S => if S.length = n + 1 then (match S[n]? with
  | some (.lst xs) => .ok xs (S.take n)
  | _ => .bad) else .bad
open Classical in
noncomputable def lcO (n : Nat) (w : Walk) (b : TB) (cond : Env' → M Bool) (f1 : Env' → M Walk) (b1 : TB) (cond1 : Env' → M Bool) (elt : Env' → M Val) (vs1 : List Nat) (ρ : Env') : List D → M (List D)
  | [] => fun S => if w.live S then takeC n S else .bad
  | x :: xs => fun S => if w.live S then (match b x ρ with
      | none => .bad
      | some ρ1 => (cond ρ1 S).bnd fun c S1 => if c = true then ((f1 ρ1 S1).bnd fun w1 S2 => lcI n w1 b1 cond1 elt (wipeE ρ1 vs1) (lcO n w b cond f1 b1 cond1 elt vs1 ρ xs) w1.items S2)
          else lcO n w b cond f1 b1 cond1 elt vs1 ρ xs S1) else .bad
noncomputable def nLc2 (f : Env' → M Walk) (b : TB) (cond : Env' → M Bool) (f1 : Env' → M Walk) (b1 : TB) (cond1 : Env' → M Bool) (elt : Env' → M Val) (vs vs1 : List Nat) : Env' → M (List D) :=
  fun ρ => M.bind (f ρ) fun w S => lcO S.length w b cond f1 b1 cond1 elt vs1 (wipeE ρ vs) w.items (S ++ [.lst []])
theorem take_post {C : Ctx} {κ κ2 : Ks} {H H2 : Hp} {S S2 : Store} {L : Addr} {Q : V → Hp → Prop} {E : XK} (c : Cells C κ H S) (hL : H L = none) (gw : Grow κ H κ2 H2) (hn : κ2.cells[S.length]? = some L) (c2 : Cells C κ2 H2 S2) (p : PostN C κ H (takeC S.length S2) Q E) : Q (.ref L) H2 := by
  unfold takeC at p
  split at p
  · rename_i hlen
    split at p
    · rename_i xs q
      obtain ⟨l, e⟩ := gw.pre
      obtain ⟨g0, _, _⟩ := exit_ks c gw c2
      obtain ⟨vs, hl, r⟩ := c2.ok _ _ L q hn
      have mL : L ∈ κ2.cells := List.mem_of_getElem? hn
      have le : Less κ2 ((⟨κ.cells, κ2.more⟩ : Ks).ex L) := ⟨fun a h => ⟨fun m => h.1 (by rw [e]; exact List.mem_append_left _ m), fun m => (List.mem_cons.mp m).elim (fun z => h.1 (by rw [z]; exact mL)) h.2⟩⟩
      refine p L vs ⟨κ.cells, κ2.more⟩ H2 g0 hL (fun m => (c2.occ L m).1 mL) hl ⟨?_, c.nd, fun n x a h1 h2 => ?_, fun a m => ?_⟩ (r.less le)
      · show κ.cells.length = _
        rw [List.length_take, Nat.min_eq_left (by omega), c.len]
      · have h2' : κ.cells[n]? = some a := h2
        have hn : n < κ.cells.length := (List.getElem?_eq_some_iff.mp h2').1
        have h1' : S2[n]? = some x := by
          rw [List.getElem?_take_of_lt (by rw [← c.len]; exact hn)] at h1
          exact h1
        have h3 : κ2.cells[n]? = some a := by rw [e, List.getElem?_append_left hn]; exact h2'
        refine (c2.ok n x a h1' h3).imp (Rep.less le) (RepL.less le) fun k b hk hb => ?_
        show κ.cells[k]? = some b
        rw [e, List.getElem?_append_left (by omega)] at hb
        exact hb
      · rcases List.mem_cons.mp m with z | m
        · rw [z]; exact ⟨c.notin hL, _, hl⟩
        · obtain ⟨n, o, q⟩ := c2.occ a m
          exact ⟨fun z => n (by rw [e]; exact List.mem_append_left _ z), o, q⟩
    · exact p.elim
  · exact p.elim
theorem ev_lc2 {X X' : Cx} {W : WX} {tg tg1 : Expr} {fi f1 : Env' → M Walk} {b b1 : TB} {g g1 : TG} {cond cond1 : Env' → M Bool} {elt : Env' → M Val} {vs ts vs1 ts1 : List Nat} (hts : ∀ i ∈ ts, i ∈ vs) (hts1 : ∀ i ∈ ts1, i ∈ vs1) (hg : DG X' tg ts b g) (hg1 : DG X' tg1 ts1 b1 g1) (hcx : cx X' = cx X) {σ : L2.St} {H : Hp} {Q : VK} (h : EvN (cx X) W (nLc2 fi b cond f1 b1 cond1 elt vs vs1) σ H Q) :
    tLc2 (EvI (cx X) W fi) g (Ev (cx X) relEq W0 cond) (EvI (cx X) W0 f1) g1 (Ev (cx X) relEq W0 cond1) (Ev (cx X) (relV (cx X)) W0 elt) vs vs1 σ H Q := by
  obtain ⟨κ, ρ, S, s, p⟩ := h
  refine ⟨κ, ρ, S, s, ?_⟩
  unfold nLc2 M.bind at p
  have go := hg.2
  rw [hcx] at go
  have go1 := hg1.2
  rw [hcx] at go1
  cases q : fi ρ S with
  | bad => rw [q] at p; exact p
  | exc e S' => rw [q] at p; exact p
  | ok w S' =>
    rw [q] at p
    intro J κ1 H1 g1' c1 wd L hL
    have s1 := s.grow g1' c1
    have p1 := PostN.grow g1' p
    have gl : Grow κ1 H1 (κ1.push L) (upd H1 L (.lst [])) := (Grow.laid hL).push hL
    have cl : Cells (cx X) (κ1.push L) (upd H1 L (.lst [])) (S' ++ [.lst []]) := (c1.lay_ex hL).push (fun m => (c1.out hL).2 m) ⟨[], upd_same, .nil⟩
    have hn0 : (κ1.push L).cells[S'.length]? = some L := push_at (c1.lay_ex (u := .lst []) hL)
    let St (xs : List D) (H2 : Hp) : Prop := ∃ κ2 S2, Grow κ1 H1 κ2 H2 ∧ κ2.cells[S'.length]? = some L ∧ Cells (cx X) κ2 H2 S2 ∧ PostN (cx X) κ1 H1 (lcO S'.length w b cond f1 b1 cond1 elt vs1 (wipeE ρ vs) xs S2) Q (fun c d H' => W c d σ H')
    refine ⟨fun i m H2 => i + m = w.items.length ∧ St (w.items.drop i) H2, ⟨w.items.length, by omega, κ1.push L, _, gl, hn0, cl, p1⟩, ?_⟩
    rintro i m H2 ⟨him, κ2, S2, gw, hn, c2, p2⟩
    by_cases hi' : i < w.items.length
    · rw [List.drop_eq_getElem_cons hi'] at p2
      unfold lcO at p2
      split at p2
      · rename_i lv
        refine .inr ⟨wd.go i κ2 H2 S2 hi' gw c2 lv, St (w.items.drop (i + 1)), fun H' r' => ⟨m - 1, by omega, by omega, r'⟩, ?_⟩
        intro x H3 y
        obtain ⟨g3, c3, r3⟩ := wd.yld i κ2 H2 S2 x H3 w.items[i] (List.getElem?_eq_getElem hi') gw c2 lv y
        split at p2
        · exact p2.elim
        · rename_i ρ1 eb
          refine go κ2 H3 (wipe σ vs) (wipeE ρ vs) S2 _ x ρ1 _ ((s1.grow (gw.trans g3) c3).wipe vs) r3 eb fun σ4 o4 s4 => ⟨?_, ?_⟩
          · have o1 : OnlyAt vs σ (wipe σ vs) := ⟨wipe_length σ vs, fun j n => by rw [wipe_get, if_neg n]⟩
            have o5 : OnlyAt vs (wipe σ vs) σ4 := ⟨o4.1, fun j n => o4.2 j fun z => n (hts j z)⟩
            rw [wipe_only o5, wipe_only o1]
          · refine ⟨κ2, ρ1, S2, s4, ?_⟩
            refine (bnd_post (rel := relEq) (Z := fun o => PostN (cx X) κ1 H1 o Q (fun c d H' => W c d σ H')) (fun z => z) p2).mono ?_
            rintro k H5 ⟨κ5, S5, a, g5, c5, rfl, p5⟩
            have gg5 := (gw.trans g3).trans g5
            have hn5 := g5.get (g3.get hn)
            cases a with
            | false =>
              rw [if_neg Bool.false_ne_true] at p5 ⊢
              exact ⟨κ5, S5, gg5, hn5, c5, p5⟩
            | true =>
              rw [if_pos rfl] at p5 ⊢
              refine ⟨κ5, ρ1, S5, s4.grow g5 c5, ?_⟩
              cases q6 : f1 ρ1 S5 with
              | bad => rw [q6] at p5; exact p5.elim
              | exc e S6 => rw [q6] at p5; exact p5.elim
              | ok w1 S6 =>
                rw [q6] at p5
                have p6 : PostN (cx X) κ1 H1 (lcI S'.length w1 b1 cond1 elt (wipeE ρ1 vs1) (lcO S'.length w b cond f1 b1 cond1 elt vs1 (wipeE ρ vs) (w.items.drop (i + 1))) w1.items S6) Q (fun c d H' => W c d σ H') := p5
                intro J1 κ6 H6 g6 c6 wd1
                have s6 := (s4.grow g5 c5).grow g6 c6
                let S1 (xs : List D) (H7 : Hp) : Prop := ∃ κ7 S7, Grow κ6 H6 κ7 H7 ∧ Cells (cx X) κ7 H7 S7 ∧ PostN (cx X) κ1 H1 (lcI S'.length w1 b1 cond1 elt (wipeE ρ1 vs1) (lcO S'.length w b cond f1 b1 cond1 elt vs1 (wipeE ρ vs) (w.items.drop (i + 1))) xs S7) Q (fun c d H' => W c d σ H')
                refine ⟨fun j k H7 => j + k = w1.items.length ∧ S1 (w1.items.drop j) H7, ⟨w1.items.length, by omega, κ6, S6, .refl _ _, c6, p6⟩, ?_⟩
                rintro j k H7 ⟨hjk, κ7, S7, g7, c7, p7⟩
                have gg7 := (gg5.trans g6).trans g7
                have hn7 := g7.get (g6.get hn5)
                by_cases hj : j < w1.items.length
                · rw [List.drop_eq_getElem_cons hj] at p7
                  unfold lcI at p7
                  split at p7
                  · rename_i lv1
                    refine .inr ⟨wd1.go j κ7 H7 S7 hj g7 c7 lv1, S1 (w1.items.drop (j + 1)), fun H' r' => ⟨k - 1, by omega, by omega, r'⟩, ?_⟩
                    intro x1 H8 y1
                    obtain ⟨g8, c8, r8⟩ := wd1.yld j κ7 H7 S7 x1 H8 w1.items[j] (List.getElem?_eq_getElem hj) g7 c7 lv1 y1
                    split at p7
                    · exact p7.elim
                    · rename_i ρ2 eb2
                      refine go1 κ7 H8 (wipe σ4 vs1) (wipeE ρ1 vs1) S7 _ x1 ρ2 _ ((s6.grow (g7.trans g8) c8).wipe vs1) r8 eb2 fun σ9 o9 s9 => ⟨?_, ?_⟩
                      · have o1 : OnlyAt vs1 σ4 (wipe σ4 vs1) := ⟨wipe_length σ4 vs1, fun j n => by rw [wipe_get, if_neg n]⟩
                        have o5 : OnlyAt vs1 (wipe σ4 vs1) σ9 := ⟨o9.1, fun j n => o9.2 j fun z => n (hts1 j z)⟩
                        rw [wipe_only o5, wipe_only o1]
                      · refine ⟨κ7, ρ2, S7, s9, ?_⟩
                        refine (bnd_post (rel := relEq) (Z := fun o => PostN (cx X) κ1 H1 o Q (fun c d H' => W c d σ H')) (fun z => z) p7).mono ?_
                        rintro k1 H10 ⟨κ10, S10, a1, g10, c10, rfl, p10⟩
                        cases a1 with
                        | false =>
                          rw [if_neg Bool.false_ne_true] at p10 ⊢
                          exact ⟨κ10, S10, (g7.trans g8).trans g10, c10, p10⟩
                        | true =>
                          rw [if_pos rfl] at p10 ⊢
                          refine ⟨κ10, ρ2, S10, s9.grow g10 c10, ?_⟩
                          refine (bnd_post (rel := relV (cx X)) (Z := fun o => PostN (cx X) κ1 H1 o Q (fun c d H' => W c d σ H')) (fun z => z) p10).mono ?_
                          rintro z H11 ⟨κ11, S11, v11, g11, c11, r11, p11⟩
                          cases v11 with
                          | cell n => exact p11.elim
                          | d d11 =>
                            have p12 : PostN (cx X) κ1 H1 ((appC S'.length (.d d11) S11).bnd fun _ S4 => lcI S'.length w1 b1 cond1 elt (wipeE ρ1 vs1) (lcO S'.length w b cond f1 b1 cond1 elt vs1 (wipeE ρ vs) (w.items.drop (i + 1))) (w1.items.drop (j + 1)) S4) Q (fun c d H' => W c d σ H') := p11
                            have hn11 := g11.get (g10.get (g8.get hn7))
                            unfold appC at p12
                            split at p12
                            · rename_i ys d12 q12 e12
                              cases e12
                              split at p12
                              · rename_i hz
                                obtain ⟨us, h3, rr⟩ := c11.ok _ _ L q12 hn11
                                refine ⟨us, h3, mil_lt (by rw [rr.length]; exact hz), ?_⟩
                                exact ⟨κ11, _, (((g7.trans g8).trans g10).trans g11).trans (.cell (List.mem_of_getElem? hn11) h3), c11.setc hn11 q12 h3 (rr.append (.cons r11 .nil)), p12⟩
                              · exact p12.elim
                            · exact p12.elim
                  · exact p7.elim
                · have e0 : w1.items.drop j = [] := List.drop_eq_nil_iff.mpr (by omega)
                  rw [e0] at p7
                  unfold lcI at p7
                  split at p7
                  · rename_i lv1
                    have : j = w1.items.length := by omega
                    subst this
                    exact .inl ⟨wd1.stop κ7 H7 S7 g7 c7 lv1, κ7, S7, gg7, hn7, c7, p7⟩
                  · exact p7.elim
      · exact p2.elim
    · have e0 : w.items.drop i = [] := List.drop_eq_nil_iff.mpr (by omega)
      rw [e0] at p2
      unfold lcO at p2
      split at p2
      · rename_i lv
        have : i = w.items.length := by omega
        subst this
        exact .inl ⟨wd.stop κ2 H2 S2 gw c2 lv, take_post c1 hL gw hn c2 p2⟩
      · exact p2.elim
section
variable {X : Cx} {W : WX} {pos spos : Pos} {elt tg iter tg1 iter1 : Expr} {ifs ifs1 : List Expr} {scope : Scope} {own : List (Str × Nat)} {fi f1 : Env' → M Walk} {ts ts1 vs1 : List Nat} {b b1 : TB} {g g1 : TG} {cond cond1 : Env' → M Bool} {fe : Env' → M Val}
theorem dn_lc2 (hc : X.calm = true) (hN : X.N.Nodup) (ok : BlkOk X.N X.env.scope scope own) (hi : DI X W tg iter fi) (hv : ∀ i ∈ vs1, i ∈ own.map (·.2))
    (hg : ∀ (s : Shared) (H : Hp) (C : Addr) (cl : List (Str × Addr)) (fp : List Addr), DG (X.blk s H scope (compEnvC scope cl C X.env) fp) tg ts b g)
    (ht : ∀ (s : Shared) (H : Hp) (C : Addr) (cl : List (Str × Addr)) (fp : List Addr), PTs (X.blk s H scope (compEnvC scope cl C X.env) fp) ifs (Ev (cx X) relEq W0 cond))
    (hi1 : ∀ (s : Shared) (H : Hp) (C : Addr) (cl : List (Str × Addr)) (fp : List Addr), DI (X.blk s H scope (compEnvC scope cl C X.env) fp) W0 tg1 iter1 f1)
    (hg1 : ∀ (s : Shared) (H : Hp) (C : Addr) (cl : List (Str × Addr)) (fp : List Addr), DG (X.blk s H scope (compEnvC scope cl C X.env) fp) tg1 ts1 b1 g1)
    (ht1 : ∀ (s : Shared) (H : Hp) (C : Addr) (cl : List (Str × Addr)) (fp : List Addr), PTs (X.blk s H scope (compEnvC scope cl C X.env) fp) ifs1 (Ev (cx X) relEq W0 cond1))
    (he : ∀ (s : Shared) (H : Hp) (C : Addr) (cl : List (Str × Addr)) (fp : List Addr), DE (X.blk s H scope (compEnvC scope cl C X.env) fp) W0 elt fe)
    (hts : ∀ i ∈ ts, i ∈ own.map (·.2)) (hts1 : ∀ i ∈ ts1, i ∈ vs1) (hs : ∀ x, foldedSetIterable iter X.env x = pure x := by intro _; rfl) (hs1 : ∀ env x, foldedSetIterable iter1 env x = pure x := by intro _ _; rfl) :
    DN X W (.ListComp elt [⟨tg, iter, ifs, 0⟩, ⟨tg1, iter1, ifs1, 0⟩] scope pos) (nLc2 fi b cond f1 b1 cond1 fe (own.map (·.2)) vs1) := by
  refine ⟨fun pins s σ H Q I h => ?_⟩
  refine (pe_lc2 (wi1 := EvI (cx X) W0 f1) (te := Ev (cx X) (relV (cx X)) W0 fe) hc hN hi ok hv (fun s H C cl fp => (hg s H C cl fp).pg) ht hi1 (fun s H C cl fp => (hg1 s H C cl fp).pg) ht1 he hs hs1).run pins s σ H Q I ?_
  exact ev_lc2 (X' := X.blk s H scope (compEnvC scope [] 0 X.env) []) hts hts1 (hg s H 0 [] []) (hg1 s H 0 [] []) rfl h
theorem ps_lc2 {i : Nat} {y : Str} {py : Pos} (hc : X.calm = true) (hN : X.N.Nodup) (hy : X.N[i]? = some y) (hyl : X.env.scope.names.lookup y = some .local)
    (hsw : swapsWith (.ListComp elt [⟨tg, iter, ifs, 0⟩, ⟨tg1, iter1, ifs1, 0⟩] scope pos) (some (.Name y py)) spos.line X.env = pure true) (ok : BlkOk X.N X.env.scope scope own) (hi : DI X W tg iter fi) (hv : ∀ i ∈ vs1, i ∈ own.map (·.2))
    (hg : ∀ (s : Shared) (H : Hp) (C : Addr) (cl : List (Str × Addr)) (fp : List Addr), DG (X.blk s H scope (compEnvC scope cl C X.env) fp) tg ts b g)
    (ht : ∀ (s : Shared) (H : Hp) (C : Addr) (cl : List (Str × Addr)) (fp : List Addr), PTs (X.blk s H scope (compEnvC scope cl C X.env) fp) ifs (Ev (cx X) relEq W0 cond))
    (hi1 : ∀ (s : Shared) (H : Hp) (C : Addr) (cl : List (Str × Addr)) (fp : List Addr), DI (X.blk s H scope (compEnvC scope cl C X.env) fp) W0 tg1 iter1 f1)
    (hg1 : ∀ (s : Shared) (H : Hp) (C : Addr) (cl : List (Str × Addr)) (fp : List Addr), DG (X.blk s H scope (compEnvC scope cl C X.env) fp) tg1 ts1 b1 g1)
    (ht1 : ∀ (s : Shared) (H : Hp) (C : Addr) (cl : List (Str × Addr)) (fp : List Addr), PTs (X.blk s H scope (compEnvC scope cl C X.env) fp) ifs1 (Ev (cx X) relEq W0 cond1))
    (he : ∀ (s : Shared) (H : Hp) (C : Addr) (cl : List (Str × Addr)) (fp : List Addr), DE (X.blk s H scope (compEnvC scope cl C X.env) fp) W0 elt fe)
    (hts : ∀ i ∈ ts, i ∈ own.map (·.2)) (hts1 : ∀ i ∈ ts1, i ∈ vs1) (hs : ∀ x, foldedSetIterable iter X.env x = pure x := by intro _; rfl) (hs1 : ∀ env x, foldedSetIterable iter1 env x = pure x := by intro _ _; rfl) :
    PS X (.Assign [.Name y py] (.ListComp elt [⟨tg, iter, ifs, 0⟩, ⟨tg1, iter1, ifs1, 0⟩] scope pos) spos) (tAsg (EvN (cx X) W (nLc2 fi b cond f1 b1 cond1 fe (own.map (·.2)) vs1)) (gName i)) := by
  refine ⟨fun pins s σ H D I h => ?_⟩
  refine (ps_setLc2 (wi1 := EvI (cx X) W0 f1) (te := Ev (cx X) (relV (cx X)) W0 fe) hc hN hy hyl hsw hi ok hv (fun s H C cl fp => (hg s H C cl fp).pg) ht hi1 (fun s H C cl fp => (hg1 s H C cl fp).pg) ht1 he hs hs1).run pins s σ H D I ?_
  exact ev_lc2 (X' := X.blk s H scope (compEnvC scope [] 0 X.env) []) hts hts1 (hg s H 0 [] []) (hg1 s H 0 [] []) rfl h
end
/-! ### a < b < c < d -/
def tChain3 (r r' r'' : R2) (ta tb tc td : TE) : TE := fun σ H Q => ta σ H fun x H1 => tb σ H1 fun y H2 => r x y H2 fun z H3 => ∃ k, z = .bl k ∧
  if k = true then tc σ H3 fun u H4 => r' y u H4 fun z2 H5 => ∃ k2, z2 = .bl k2 ∧ if k2 = true then td σ H5 fun v H6 => r'' u v H6 Q else Q (.bl false) H5 else Q (.bl false) H3
section
variable {X : Cx} {a b c d : Expr} {ta tb tc td : TE} {pos : Pos}
theorem pe_chain3 {op op' op'' : CmpOp} {r r' r'' : R2} (ho : OpR X (compareOp op) r) (ho' : OpR X (compareOp op') r') (ho'' : OpR X (compareOp op'') r'') (ha : PE X a ta) (hb : PE X b tb) (hc : PE X c tc) (hd : PE X d td)
    (hm : lastMarks [op, op', op''] [b, c, d] = false := by with_unfolding_all rfl) : PE X (.Compare a [op, op', op''] [b, c, d] pos) (tChain3 r r' r'' ta tb tc td) := by
  refine ⟨fun pins s σ H Q I h => ?_⟩
  refine Compare_chain (thn (ha.run pins s σ H _ I h) fun v s1 ⟨x, H1, I1, r1, q1⟩ => chain_link (thn (hb.run pins s1 σ H1 _ I1 q1) fun u s2 ⟨y, H2, I2, r2, q2⟩ =>
    thn (ho pins s2 σ H2 x y v u _ I2 r1 r2 q2) fun d s3 ⟨z, H3, I3, r3, k, e, q3⟩ => ?_)) hm
  subst e
  cases r3
  refine wpAny_truthy_bool ?_
  cases k with
  | false => exact ite_ff ⟨.bl false, H3, I3, rfl, q3⟩
  | true =>
    refine ite_tt (chain_link (thn (hc.run pins s3 σ H3 _ I3 q3) fun w' s4 ⟨z', H4, I4, r4, q4⟩ => thn (ho' pins s4 σ H4 y z' u w' _ I4 r2 r4 q4) fun d' s5 ⟨z2, H5, I5, r5, k2, e2, q5⟩ => ?_))
    subst e2
    cases r5
    refine wpAny_truthy_bool ?_
    cases k2 with
    | false => exact ite_ff ⟨.bl false, H5, I5, rfl, q5⟩
    | true => exact ite_tt (chain_last (thn (hd.run pins s5 σ H5 _ I5 q5) fun w2 s6 ⟨z6, H6, I6, r6, q6⟩ => ho'' pins s6 σ H6 z' z6 w' w2 Q I6 r4 r6 q6))
theorem pt_chain3 {op op' op'' : CmpOp} {r r' r'' : R2} (ho : OpR X (compareOp op) r) (ho' : OpR X (compareOp op') r') (ho'' : OpR X (compareOp op'') r'') (ha : PE X a ta) (hb : PE X b tb) (hc : PE X c tc) (hd : PE X d td)
    (hm : lastMarks [op, op', op''] [b, c, d] = false := by with_unfolding_all rfl) : PT X (.Compare a [op, op', op''] [b, c, d] pos) (tTest (tChain3 r r' r'' ta tb tc td)) := by
  refine ⟨fun pins s σ H Q I h => ?_⟩
  refine isTrue_chain (thn (ha.run pins s σ H _ I h) fun v s1 ⟨x, H1, I1, r1, q1⟩ => test_link (thn (hb.run pins s1 σ H1 _ I1 q1) fun u s2 ⟨y, H2, I2, r2, q2⟩ =>
    thn (ho pins s2 σ H2 x y v u _ I2 r1 r2 q2) fun d s3 ⟨z, H3, I3, r3, k, e, q3⟩ => ?_)) hm
  subst e
  cases r3
  refine wpAny_truthy_bool ?_
  cases k with
  | false =>
    obtain ⟨k', e', q'⟩ := q3
    cases e'
    exact ite_ff ⟨H3, I3, q'⟩
  | true =>
    refine ite_tt (test_link (thn (hc.run pins s3 σ H3 _ I3 q3) fun w' s4 ⟨z', H4, I4, r4, q4⟩ => thn (ho' pins s4 σ H4 y z' u w' _ I4 r2 r4 q4) fun d' s5 ⟨z2, H5, I5, r5, k2, e2, q5⟩ => ?_))
    subst e2
    cases r5
    refine wpAny_truthy_bool ?_
    cases k2 with
    | false =>
      obtain ⟨k', e', q'⟩ := q5
      cases e'
      exact ite_ff ⟨H5, I5, q'⟩
    | true =>
      refine ite_tt (test_last (thn (hd.run pins s5 σ H5 _ I5 q5) fun w2 s6 ⟨z6, H6, I6, r6, q6⟩ => thn (ho'' pins s6 σ H6 z' z6 w' w2 _ I6 r4 r6 q6) fun d7 s7 ⟨z7, H7, I7, r7, k7, e7, q7⟩ => ?_))
      subst e7
      cases r7
      exact wpAny_truthy_bool ⟨H7, I7, q7⟩
end
section
variable {X : Cx} {W : WX} {a b c d : Expr} {fa fb fc fd : Env' → M Val} {g g' g'' : D → D → Option D} {pos : Pos}
def op4k (g' g'' : D → D → Option D) (b : Val) (fc fd : M Val) (k : Bool) : M Val := fun S => if k = true then M.bind fc (fun c => op3 g' g'' b c fd) S else .ok (.d (.bl false)) S
def op4 (g g' g'' : D → D → Option D) (a b : Val) (fc fd : M Val) : M Val := M.bind (op2 g a b) fun z => M.bind (isBl z) fun k => op4k g' g'' b fc fd k
def dChain3 (g g' g'' : D → D → Option D) (fa fb fc fd : Env' → M Val) : Env' → M Val := fun ρ => M.bind (fa ρ) fun a => M.bind (fb ρ) fun b => op4 g g' g'' a b (fc ρ) (fd ρ)
theorem ev_chain3 {C : Ctx} {σ : L2.St} {H : Hp} {Q : VK} (h : Ev C (relV C) W (dChain3 g g' g'' fa fb fc fd) σ H Q) : tChain3 (rD2 C g) (rD2 C g') (rD2 C g'') (Ev C (relV C) W fa) (Ev C (relV C) W fb) (Ev C (relV C) W fc) (Ev C (relV C) W fd) σ H Q := by
  obtain ⟨κ, ρ, S, s, p⟩ := h
  obtain ⟨k1, r1, s1, sm, q⟩ := Ev.bind (rel1 := relV C) s p
  refine ⟨k1, r1, s1, sm, q.mono ?_⟩
  rintro x H1 ⟨κ1, S1, a, g1, sm1, rx, p1⟩
  obtain ⟨k2, r2, s2, sm2, q2⟩ := Ev.bind (rel1 := relV C) sm1 p1
  refine ⟨k2, r2, s2, sm2, q2.mono ?_⟩
  rintro y H2 ⟨κ2, S2, b, g2, sm2, ry, p2⟩
  obtain ⟨κ3, S3, dx, dy, z, c3, rx3, ry3, e3, q3⟩ := op2_bind sm2.cells (rx.grow g2) ry p2
  refine ⟨κ3, S3, dx, dy, z, c3, rx3, ry3, e3, fun v H3 g3 c4 r => ?_⟩
  obtain ⟨d, g4, c5, r5, p5⟩ := q3 v H3 g3 c4 r
  obtain ⟨k, ek, p6⟩ := isBl_bind r5 p5
  refine ⟨k, ek, ?_⟩
  cases k with
  | false =>
    rw [if_neg Bool.false_ne_true]
    exact PostG.ok (a := Val.d (.bl false)) p6 c5 RepV.bl
  | true =>
    rw [if_pos rfl]
    obtain ⟨k7, r7, s7, sm7, q7⟩ := Ev.bind (rel1 := relV C) (sm2.grow g4 c5) (show PostG C (relV C) κ2 H3 ((fc ρ S2).bind fun c => op3 g' g'' b c (fd ρ)) Q _ from p6)
    refine ⟨k7, r7, s7, sm7, q7.mono ?_⟩
    rintro w H7 ⟨κ7, S7, c, g7, sm8, rw', p8⟩
    obtain ⟨κ13, S13, dx', dy', z', c13, rx13, ry13, e13, q13⟩ := op2_bind sm8.cells (ry.grow (g4.trans g7)) rw' p8
    refine ⟨κ13, S13, dx', dy', z', c13, rx13, ry13, e13, fun v' H13 g13 c14 r' => ?_⟩
    obtain ⟨d', g14, c15, r15, p15⟩ := q13 v' H13 g13 c14 r'
    obtain ⟨k', ek', p16⟩ := isBl_bind r15 p15
    refine ⟨k', ek', ?_⟩
    cases k' with
    | false =>
      rw [if_neg Bool.false_ne_true]
      exact PostG.ok (a := Val.d (.bl false)) p16 c15 RepV.bl
    | true =>
      rw [if_pos rfl]
      obtain ⟨k17, r17, s17, sm17, q17⟩ := Ev.bind (rel1 := relV C) (sm8.grow g14 c15) (show PostG C (relV C) κ7 H13 ((fd ρ S7).bind fun d => op2 g'' c d) Q _ from p16)
      refine ⟨k17, r17, s17, sm17, q17.mono ?_⟩
      rintro w' H17 ⟨κ17, S17, c', g17, sm18, rw'', p18⟩
      exact op2_post sm18.cells (rw'.grow (g14.trans g17)) rw'' p18
theorem de_chain3 {op op' op'' : CmpOp} (ho : OpR X (compareOp op) (rD2 (cx X) g)) (ho' : OpR X (compareOp op') (rD2 (cx X) g')) (ho'' : OpR X (compareOp op'') (rD2 (cx X) g'')) (ha : DE X W a fa) (hb : DE X W b fb) (hc : DE X W c fc) (hd : DE X W d fd)
    (hm : lastMarks [op, op', op''] [b, c, d] = false := by with_unfolding_all rfl) : DE X W (.Compare a [op, op', op''] [b, c, d] pos) (dChain3 g g' g'' fa fb fc fd) := pe_imp (pe_chain3 ho ho' ho'' ha hb hc hd hm) fun _ _ _ h => ev_chain3 h
theorem dt_chain3 {op op' op'' : CmpOp} (ho : OpR X (compareOp op) (rD2 (cx X) g)) (ho' : OpR X (compareOp op') (rD2 (cx X) g')) (ho'' : OpR X (compareOp op'') (rD2 (cx X) g'')) (ha : DE X W a fa) (hb : DE X W b fb) (hc : DE X W c fc) (hd : DE X W d fd)
    (hm : lastMarks [op, op', op''] [b, c, d] = false := by with_unfolding_all rfl) : DT X W (.Compare a [op, op', op''] [b, c, d] pos) (dTest (dChain3 g g' g'' fa fb fc fd)) := pt_imp (pt_chain3 ho ho' ho'' ha hb hc hd hm) fun _ _ _ h => ev_chain3 (ev_test h)
end
end Dn

/-! Dn11: dicts with number and text keys as cells. -/
namespace Dn
open PySem PySem.Spec PyProof.Rows L2
/-! ### cells changed -/
theorem Grow.cellM {κ : Ks} {H : Hp} {a : Addr} {o u : HO} (m : a ∈ κ.cells) (h : H a = some o) (ht : ∀ xs, o ≠ .tup xs) (hf : ∀ q w, o ≠ .frz q w) : Grow κ H κ (upd H a u) :=
  ⟨⟨[], by simp⟩, fun _ z => .inl z, fun _ z => z, fun b o n e => by rw [upd_ne (fun z => n (by rw [z]; exact m))]; exact e, fun b z n => absurd z n, fun b o e => by
    by_cases hb : b = a
    · exact ⟨u, by rw [hb]; exact upd_same⟩
    · exact ⟨o, by rw [upd_ne hb]; exact e⟩,
   fun b ys e => by rw [upd_ne (fun z => by rw [z, h] at e; exact ht _ (Option.some.inj e))]; exact e, fun b o w e => by rw [upd_ne (fun z => by rw [z, h] at e; exact hf _ _ (Option.some.inj e))]; exact e⟩
theorem CellOk.stp {C : Ctx} {κ : Ks} {H H' : Hp} {i : Nat} {a : Addr} {c : Cell} (g : Stp κ H κ H') (e : H' a = H a) (h : CellOk C κ H i a c) : CellOk C κ H' i a c := by
  cases c with
  | lst ys =>
    obtain ⟨vs, q, r⟩ := h
    exact ⟨vs, e.trans q, r.stp g⟩
  | dct ks ds =>
    rcases h with ⟨kvs, q, k, r⟩ | ⟨kvs, q, k, r⟩
    · exact .inl ⟨kvs, e.trans q, k, r.stp g⟩
    · exact .inr ⟨kvs, e.trans q, k, r.stp g⟩
  | ins c fs =>
    obtain ⟨Ca, dx, fvs, m, q, k, r⟩ := h
    refine ⟨Ca, dx, fvs, m, e.trans q, k, fun j f x v h1 h2 => ?_⟩
    have := r j f x v h1 h2
    cases x with
    | d y => exact Rep.stp g this
    | cell n => exact this
  | fzd ks ds =>
    rcases h with ⟨o, ⟨kvs, q, k, r⟩ | ⟨kvs, q, k, r⟩⟩
    · exact ⟨o, .inl ⟨kvs, e.trans q, k, r.stp g⟩⟩
    · exact ⟨o, .inr ⟨kvs, e.trans q, k, r.stp g⟩⟩
/-- one cell is another one now -/
theorem Cells.setM {C : Ctx} {κ : Ks} {H : Hp} {S : Store} {n : Nat} {a : Addr} {u : HO} {x : Cell} (c : Cells C κ H S) (st : Stp κ H κ (L2.upd H a u)) (ha : κ.cells[n]? = some a) (hn : n < S.length) (k : CellOk C κ (L2.upd H a u) n a x) :
    Cells C κ (L2.upd H a u) (S.set n x) := by
  have m : a ∈ κ.cells := List.mem_of_getElem? ha
  refine ⟨by rw [List.length_set]; exact c.len, c.nd, fun j y b h1 h2 => ?_, fun b z => ?_⟩
  · by_cases hj : n = j
    · subst hj
      rw [List.getElem?_set_self hn] at h1
      cases h1
      rw [ha] at h2
      cases h2
      exact k
    · rw [List.getElem?_set_ne hj] at h1
      refine (c.ok j y b h1 h2).stp st (upd_ne fun z => hj ?_)
      subst z
      obtain ⟨b1, e1⟩ := List.getElem?_eq_some_iff.mp ha
      obtain ⟨b2, e2⟩ := List.getElem?_eq_some_iff.mp h2
      exact (List.getElem_inj c.nd).mp (e1.trans e2.symm)
  · obtain ⟨n1, o, q⟩ := c.occ b z
    exact ⟨n1, o, by rw [upd_ne (fun e => n1 (by rw [e]; exact m))]; exact q⟩
/-! ### keys -/
def keyB : D → D → Bool
  | .int i, .int j => decide (i = j)
  | .str x, .str y => decide (x = y)
  | _, _ => false
theorem keyB_eq (a b : Key) : keyB (keyD a) (keyD b) = decide (a = b) := by
  cases a with
  | inl i => cases b with
    | inl j => exact decide_eq_decide.mpr ⟨fun h => by rw [h], fun h => Sum.inl.inj h⟩
    | inr y => exact (decide_eq_false (fun h => nomatch h)).symm
  | inr x => cases b with
    | inl j => exact (decide_eq_false (fun h => nomatch h)).symm
    | inr y => exact decide_eq_decide.mpr ⟨fun h => by rw [h], fun h => Sum.inr.inj h⟩
def isKey : D → Bool
  | .int _ => true
  | .str _ => true
  | _ => false
theorem isKey_rep {C : Ctx} {κ : Ks} {H : Hp} {d : D} {v : V} (h : isKey d = true) (r : Rep C κ H d v) : ∃ k : Key, d = keyD k ∧ v = kV k := by
  cases d with
  | int i => exact ⟨.inl i, rfl, Rep.int_iff.mp r⟩
  | str x => exact ⟨.inr x, rfl, Rep.str_iff.mp r⟩
  | _ => cases h
/-- a dict with number and text keys (the others' keys begin with a mark) -/
def isK : List D → Bool
  | .non :: _ => false
  | _ => true
theorem isK_map (kvs : List (Key × V)) : isK (kvs.map fun p => keyD p.1) = true := by
  cases kvs with
  | nil => rfl
  | cons p r =>
    obtain ⟨k, v⟩ := p
    cases k <;> rfl
def lookD (k : D) : List D → List D → Option D
  | a :: ks, d :: ds => if keyB a k = true then some d else lookD k ks ds
  | _, _ => none
def putKs (k : D) (ks : List D) : List D := if (ks.any fun a => keyB a k) = true then ks else ks ++ [k]
def putVs (k v : D) (ks ds : List D) : List D := if (ks.any fun a => keyB a k) = true then List.zipWith (fun a d => if keyB a k = true then v else d) ks ds else ds ++ [v]
theorem lookD_ok {C : Ctx} {κ : Ks} {H : Hp} (k : Key) : ∀ (kvs : List (Key × V)) (ds : List D), RepL C κ H ds (kvs.map (·.2)) →
    match lookD (keyD k) (kvs.map fun p => keyD p.1) ds, valV kvs k with
    | some d, some v => Rep C κ H d v
    | none, none => True
    | _, _ => False
  | [], ds, h => by
    show match lookD (keyD k) [] ds, valV ([] : List (Key × V)) k with
      | some d, some v => Rep C κ H d v
      | none, none => True
      | _, _ => False
    rw [valV_nil]
    cases ds <;> trivial
  | p :: r, [], h => by
    have := h.length
    cases this
  | p :: r, d :: ds, h => by
    obtain ⟨v, vs, e, h1, h2⟩ := h.cons_inv
    injection e with e1 e2
    subst e1 e2
    show match (if keyB (keyD p.1) (keyD k) = true then some d else lookD (keyD k) (r.map fun p => keyD p.1) ds), valV (p :: r) k with
      | some d, some v => Rep C κ H d v
      | none, none => True
      | _, _ => False
    rw [keyB_eq]
    by_cases q : p.1 = k
    · rw [if_pos (decide_eq_true q), valV_pos q]; exact h1
    · rw [if_neg (by simpa using q), valV_neg q]; exact lookD_ok k r ds h2
theorem any_keys (k : Key) (kvs : List (Key × V)) : ((kvs.map fun p => keyD p.1).any fun a => keyB a (keyD k)) = kvs.any fun kv => decide (kv.1 = k) := by
  rw [List.any_map]
  congr 1
  funext p
  exact keyB_eq p.1 k
theorem putK_eq (kvs : List (Key × V)) (k : Key) (y : V) : putK kvs k y = if (kvs.any fun kv => decide (kv.1 = k)) = true then kvs.map (fun kv => if kv.1 = k then (kv.1, y) else kv) else kvs ++ [(k, y)] := rfl
theorem putKs_ok (kvs : List (Key × V)) (k : Key) (y : V) : putKs (keyD k) (kvs.map fun p => keyD p.1) = (putK kvs k y).map fun p => keyD p.1 := by
  unfold putKs
  rw [any_keys, putK_eq]
  split
  · rw [List.map_map]
    apply List.map_congr_left
    intro p _
    show keyD p.1 = keyD (if p.1 = k then (p.1, y) else p).1
    split <;> rfl
  · rw [List.map_append]; rfl
theorem putVs_map {C : Ctx} {κ : Ks} {H : Hp} {k : Key} {dv : D} {y : V} (hv : Rep C κ H dv y) : ∀ (kvs : List (Key × V)) (ds : List D), RepL C κ H ds (kvs.map (·.2)) →
    RepL C κ H (List.zipWith (fun a d => if keyB a (keyD k) = true then dv else d) (kvs.map fun p => keyD p.1) ds) ((kvs.map fun kv => if kv.1 = k then (kv.1, y) else kv).map (·.2))
  | [], ds, h => by
    have := h.length
    cases ds with
    | nil => exact .nil
    | cons => cases this
  | p :: r, [], h => by have := h.length; cases this
  | p :: r, d :: ds, h => by
    obtain ⟨v, vs, e, h1, h2⟩ := h.cons_inv
    injection e with e1 e2
    subst e1 e2
    rw [List.map_cons, List.map_cons, List.map_cons, List.zipWith_cons_cons]
    refine .cons ?_ (putVs_map hv r ds h2)
    rw [keyB_eq]
    by_cases q : p.1 = k
    · rw [if_pos (decide_eq_true q), if_pos q]; exact hv
    · rw [if_neg (by simpa using q), if_neg q]; exact h1
theorem putVs_ok {C : Ctx} {κ : Ks} {H : Hp} {k : Key} {dv : D} {y : V} {kvs : List (Key × V)} {ds : List D} (hv : Rep C κ H dv y) (h : RepL C κ H ds (kvs.map (·.2))) :
    RepL C κ H (putVs (keyD k) dv (kvs.map fun p => keyD p.1) ds) ((putK kvs k y).map (·.2)) := by
  unfold putVs
  rw [any_keys, putK_eq]
  split
  · exact putVs_map hv kvs ds h
  · rw [List.map_append]; exact h.append (.cons hv .nil)
/-! ### the dict of a cell -/
def dctOf (v : Val) (S : Store) : Option (List D × List D) := match v with
  | .d (.dct ks ds) => if isK ks = true then some (ks, ds) else none
  | .cell n => match S[n]? with
    | some (.dct ks ds) => if isK ks = true then some (ks, ds) else none
    | some (.fzd ks ds) => if isK ks = true then some (ks, ds) else none
    | _ => none
  | _ => none
theorem noT {kvs : List (List Key × V)} {ks : List D} (h : ks = .non :: kvs.map (fun p => .tup (p.1.map keyD))) (k : isK ks = true) : False := by
  subst h; cases k
theorem dctOf_ok {C : Ctx} {κ : Ks} {H : Hp} {S : Store} {v : Val} {x : V} {ks ds : List D} (c : Cells C κ H S) (r : RepV C κ H v x) (e : dctOf v S = some (ks, ds)) :
    ∃ a kvs, x = .ref a ∧ Rd H a (.dK kvs) ∧ ks = kvs.map (fun p => keyD p.1) ∧ RepL C κ H ds (kvs.map (·.2)) := by
  unfold dctOf at e
  split at e
  · rename_i ks' ds'
    split at e
    · rename_i hk
      cases e
      have r : Rep C κ H (.dct ks ds) x := r
      unfold Rep at r
      obtain ⟨a, ex, _, ⟨kvs, q, k, rr⟩ | ⟨kvs, q, k, rr⟩⟩ := r
      · exact ⟨a, kvs, ex, .inl q, k, rr⟩
      · exact (noT k hk).elim
    · cases e
  · rename_i n
    obtain ⟨a, ha, ex⟩ := r
    split at e
    · rename_i ks' ds' q
      split at e
      · rename_i hk
        cases e
        rcases c.ok n _ a q ha with ⟨kvs, z, k, rr⟩ | ⟨kvs, z, k, rr⟩
        · exact ⟨a, kvs, ex, .inl z, k, rr⟩
        · exact (noT k hk).elim
      · cases e
    · rename_i ks' ds' q
      split at e
      · rename_i hk
        cases e
        rcases c.ok n _ a q ha with ⟨o, ⟨kvs, z, k, rr⟩ | ⟨kvs, z, k, rr⟩⟩
        · exact ⟨a, kvs, ex, .inr ⟨o, z⟩, k, rr⟩
        · exact (noT k hk).elim
      · cases e
    · cases e
  · cases e
/-! ### {}, {i: j} -/
def dNewD : Env' → M Val := fun _ S => .ok (.cell S.length) (S ++ [.dct [] []])
def dNewD1 (i j : Int) : Env' → M Val := fun _ S => .ok (.cell S.length) (S ++ [.dct [.int i] [.int j]])
theorem newD_post {C : Ctx} {κ : Ks} {H : Hp} {S : Store} {p : Addr} {kvs : List (Key × V)} {ks ds : List D} {Q : VK} {E : XK} (c : Cells C κ H S) (hp : H p = none) (k : ks = kvs.map (fun p => keyD p.1)) (r : RepL C (κ.ex p) (upd H p (.dK kvs)) ds (kvs.map (·.2)))
    (h : PostG C (relV C) κ H (.ok (.cell S.length) (S ++ [.dct ks ds])) Q E) : Q (.ref p) (upd H p (.dK kvs)) := by
  have cl : Cells C (κ.ex p) (upd H p (.dK kvs)) S := c.lay_ex hp
  exact h (.ref p) (κ.push p) (upd H p (.dK kvs)) ((Grow.laid hp).push hp) (cl.push (x := .dct ks ds) (c.out hp).2 (.inl ⟨kvs, upd_same, k, r⟩)) ⟨p, push_at cl, rfl⟩
section
variable {X : Cx} {W : WX} {pos p1 p2 : Pos}
theorem de_newD : DE X W (.Dict [] [] pos) dNewD := pe_imp pe_dnewK fun σ H Q h => by
  obtain ⟨κ, ρ, S, s, p⟩ := h
  intro a ha
  exact newD_post (kvs := []) s.cells ha rfl .nil p
theorem de_newD1 {k v : Expr} {i j : Int} (hk : PE X k (tC (.int i))) (hv : PE X v (tC (.int j))) : DE X W (.Dict [some k] [v] pos) (dNewD1 i j) :=
  pe_imp (pe_disp (pps_cons hk hv pps_nil) rfl rfl (by simp) (by simp)) fun σ H Q h => by
  obtain ⟨κ, ρ, S, s, p⟩ := h
  intro a ha
  show upd H a (.dK []) a = some (.dK []) ∧ _
  refine ⟨upd_same, [(.inl i, .int j)], rfl, by simp, ?_⟩
  rw [upd_upd]
  exact newD_post (kvs := [(.inl i, .int j)]) s.cells ha rfl (.cons (Rep.int_iff.mpr rfl) .nil) p
end
/-! ### d[k], d.get(k, x), k in d -/
def getC (o k : Val) : M Val := fun S => match dctOf o S, k with
  | some (ks, ds), .d d => if isKey d = true then (match lookD d ks ds with
    | some v => .ok (.d v) S
    | none => .bad) else .bad
  | _, _ => .bad
def getC2 (o k x : Val) : M Val := fun S => match dctOf o S, k with
  | some (ks, ds), .d d => if isKey d = true then (match lookD d ks ds with
    | some v => .ok (.d v) S
    | none => .ok x S) else .bad
  | _, _ => .bad
def dGetD (fo fk : Env' → M Val) : Env' → M Val := fun ρ => M.bind (fo ρ) fun o => M.bind (fk ρ) fun k => getC o k
/-- the value is a dict -/
def isDc (o : Val) : M Unit := fun S => if (dctOf o S).isSome = true then .ok () S else .bad
def dGetD2 (fo fk fx : Env' → M Val) : Env' → M Val := fun ρ => M.bind (fo ρ) fun o => M.bind (isDc o) fun _ => M.bind (fk ρ) fun k => M.bind (fx ρ) fun x => getC2 o k x
theorem getC_post {C : Ctx} {κ : Ks} {H : Hp} {S : Store} {o k : Val} {x y : V} {Q : VK} {E : XK} (c : Cells C κ H S) (rx : RepV C κ H o x) (ry : RepV C κ H k y) (p : PostG C (relV C) κ H (getC o k S) Q E) : ∃ a v, x = .ref a ∧ DGet H a y (some v) ∧ Q v H := by
  unfold getC at p
  split at p
  · rename_i ks ds d e
    split at p
    · rename_i hk
      obtain ⟨kk, rfl, rfl⟩ := isKey_rep hk ry
      obtain ⟨a, kvs, ex, hr, rfl, rr⟩ := dctOf_ok c rx e
      have lk := lookD_ok kk kvs ds rr
      split at p
      · rename_i v q
        rw [q] at lk
        cases hv : valV kvs kk with
        | none => rw [hv] at lk; exact lk.elim
        | some u =>
          rw [hv] at lk
          exact ⟨a, u, ex, .inl ⟨kvs, kk, hr, rfl, hv.symm⟩, PostG.ok p c lk⟩
      · exact p.elim
    · exact p.elim
  · exact p.elim
theorem getC2_post {C : Ctx} {κ : Ks} {H : Hp} {S : Store} {o k w : Val} {x y z : V} {Q : VK} {E : XK} (c : Cells C κ H S) (rx : RepV C κ H o x) (ry : RepV C κ H k y) (rz : RepV C κ H w z) (p : PostG C (relV C) κ H (getC2 o k w S) Q E) : ∃ a, x = .ref a ∧ ∃ v, DGet H a y v ∧ Q (v.getD z) H := by
  unfold getC2 at p
  split at p
  · rename_i ks ds d e
    split at p
    · rename_i hk
      obtain ⟨kk, rfl, rfl⟩ := isKey_rep hk ry
      obtain ⟨a, kvs, ex, hr, rfl, rr⟩ := dctOf_ok c rx e
      have lk := lookD_ok kk kvs ds rr
      refine ⟨a, ex, valV kvs kk, .inl ⟨kvs, kk, hr, rfl, rfl⟩, ?_⟩
      split at p
      · rename_i v q
        rw [q] at lk
        cases hv : valV kvs kk with
        | none => rw [hv] at lk; exact lk.elim
        | some u =>
          rw [hv] at lk
          exact PostG.ok p c lk
      · rename_i q
        rw [q] at lk
        cases hv : valV kvs kk with
        | none => exact PostG.ok p c rz
        | some u => rw [hv] at lk; exact lk.elim
    · exact p.elim
  · exact p.elim
section
variable {X : Cx} {W : WX} {pos apos cpos : Pos} {o e f : Expr} {fo fk fx : Env' → M Val}
theorem de_dget (hu : X.A.units + 1 < cLine) (ho : DE X W o fo) (hk : DE X W e fk) (hs : NoSl e := by first | exact NoSl.rfl | (intro _ _; rfl)) : DE X W (.Subscript o e pos) (dGetD fo fk) := pe_imp (pe_dget hu ho hk hs) fun σ H Q h => by
  obtain ⟨κ, ρ, S, s, p⟩ := h
  obtain ⟨k1, r1, s1, sm, q⟩ := Ev.bind (rel1 := relV (cx X)) s p
  refine ⟨k1, r1, s1, sm, q.mono ?_⟩
  rintro x H1 ⟨κ1, S1, a, g1, sm1, rx, p1⟩
  obtain ⟨k2, r2, s2, sm2, q2⟩ := Ev.bind (rel1 := relV (cx X)) sm1 p1
  refine ⟨k2, r2, s2, sm2, q2.mono ?_⟩
  rintro y H2 ⟨κ2, S2, b, g2, sm2, ry, p2⟩
  exact getC_post sm2.cells (rx.grow g2) ry p2
end
end Dn
namespace Dn
open PySem PySem.Spec PyProof.Rows L2
theorem isDc_post {C : Ctx} {α β : Type} {rel : Ks → Hp → α → β → Prop} {κ : Ks} {H : Hp} {S : Store} {o : Val} {x : V} {k : Unit → M α} {Q : β → Hp → Prop} {E : XK} (c : Cells C κ H S) (r : RepV C κ H o x) (p : PostG C rel κ H ((isDc o S).bind k) Q E) :
    ∃ a, x = .ref a ∧ IsD H a ∧ PostG C rel κ H (k () S) Q E := by
  unfold isDc at p
  cases e : dctOf o S with
  | none => rw [e] at p; exact p.elim
  | some kd =>
    rw [e] at p
    obtain ⟨ks, ds⟩ := kd
    obtain ⟨a, kvs, ex, hr, _, _⟩ := dctOf_ok c r e
    exact ⟨a, ex, .inl ⟨kvs, hr⟩, p⟩
section
variable {X : Cx} {W : WX} {pos apos cpos p3 : Pos} {o e f : Expr} {fo fk fx : Env' → M Val}
theorem de_dget2 (hu : X.A.units + 1 < cLine) (ho : DE X W o fo) (hk : DE X W e fk) (hx : DE X W f fx)
    (hb : attributeBase o "get" X.env (eval o X.env) = eval o X.env := by rfl)
    (hf : ((backTo cpos (starEach [e, f] X.env)).all (fun x => !x.1) && (backToKw cpos (keywordEach [] X.env)).all (fun x => x.1.isSome)
      && decide (([e, f] : List Expr).length + ([] : List Keyword).length + (if ([] : List Keyword).isEmpty then 0 else 1) < 30)) = true := by rfl)
    (hl : (apos.endLine == cpos.line) = true := by rfl) (ht : backTo cpos (starEach [e, f] X.env) = [(false, eval e X.env), (false, eval f X.env)] := by rfl) :
    DE X W (.Call (.Attribute o "get" apos) [e, f] [] cpos) (dGetD2 fo fk fx) := pe_imp (pe_dget2 hu ho hk hx ⟨hb, hf, hl, ht⟩) fun σ H Q h => by
  obtain ⟨κ, ρ, S, s, p⟩ := h
  obtain ⟨k1, r1, s1, sm, q⟩ := Ev.bind (rel1 := relV (cx X)) s p
  refine ⟨k1, r1, s1, sm, q.mono ?_⟩
  rintro x H1 ⟨κ1, S1, a, g1, sm1, rx, p1⟩
  obtain ⟨ad, ex, isd, p2⟩ := isDc_post sm1.cells rx p1
  refine ⟨ad, ex, isd, ?_⟩
  obtain ⟨k2, r2, s2, sm2, q2⟩ := Ev.bind (rel1 := relV (cx X)) sm1 p2
  refine ⟨k2, r2, s2, sm2, q2.mono ?_⟩
  rintro y H2 ⟨κ2, S2, b, g2, sm2, ry, p3⟩
  obtain ⟨k3, r3, s3, sm3, q3⟩ := Ev.bind (rel1 := relV (cx X)) sm2 p3
  refine ⟨k3, r3, s3, sm3, q3.mono ?_⟩
  rintro z H3 ⟨κ3, S3, w, g3, sm3, rz, p4⟩
  obtain ⟨a', ex', v, dg, qq⟩ := getC2_post sm3.cells (rx.grow (g2.trans g3)) (ry.grow g3) rz p4
  rw [ex] at ex'
  cases ex'
  exact ⟨v, dg, qq⟩
/-- d[k] = v, d a dict of a cell -/
def putC (o k v : Val) (ρ : Env') (S : Store) : SOut := match o, k, v with
  | .cell n, .d dk, .d dv => match S[n]? with
    | some (.dct ks ds) => if isK ks = true ∧ isKey dk = true ∧ ks.length < 1000000 then .next ρ (S.set n (.dct (putKs dk ks) (putVs dk dv ks ds))) else .bad
    | _ => .bad
  | _, _, _ => .bad
def sPutD (fo fk fv : Env' → M Val) : SD := fun ρ S => (fv ρ S).st ρ fun v ρ' S' => (fo ρ' S').st ρ' fun o ρ' S' => (fk ρ' S').st ρ' fun k ρ' S' => putC o k v ρ' S'
end
end Dn
namespace Dn
open PySem PySem.Spec PyProof.Rows L2
theorem Sim.setM {C : Ctx} {κ : Ks} {H : Hp} {σ : L2.St} {ρ : Env'} {S : Store} {n : Nat} {a : Addr} {u : HO} {x : Cell} (s : Sim C κ H σ ρ S) (st : Stp κ H κ (L2.upd H a u)) (ha : κ.cells[n]? = some a) (hn : n < S.length) (k : CellOk C κ (L2.upd H a u) n a x) : Sim C κ (L2.upd H a u) σ ρ (S.set n x) :=
  ⟨s.cells.setM st ha hn k, s.len, fun i y e => by
    obtain ⟨v, q, r⟩ := s.env i y e
    refine ⟨v, q, ?_⟩
    cases y with
    | d z => exact Rep.stp st r
    | cell m => exact r⟩
section
variable {X : Cx} {W : WX} {pos pos' : Pos} {o e value : Expr} {fo fk fv : Env' → M Val}
theorem ds_dput (hu : X.A.units + 1 < cLine) (ho : DE X W o fo) (hk : DE X W e fk) (hv : DE X W value fv) (hs : swapsWith value (some (.Subscript o e pos')) pos.line X.env = pure false := by rfl) :
    DS X W (.Assign [.Subscript o e pos'] value pos) (sPutD fo fk fv) := ps_imp (ps_dput hu ho hk hv hs) fun D σ H h => by
  obtain ⟨κ, ρ, S, s, p⟩ := h
  obtain ⟨k1, r1, s1, sm, q⟩ := evS_bind (rel := relV (cx X)) s p
  refine ⟨k1, r1, s1, sm, q.mono ?_⟩
  rintro v H1 ⟨κ1, S1, av, g1, sm1, rv, p1⟩
  obtain ⟨k2, r2, s2, sm2, q2⟩ := evS_bind (rel := relV (cx X)) sm1 p1
  refine ⟨k2, r2, s2, sm2, q2.mono ?_⟩
  rintro x H2 ⟨κ2, S2, ao, g2, sm2, rx, p2⟩
  obtain ⟨k3, r3, s3, sm3, q3⟩ := evS_bind (rel := relV (cx X)) sm2 p2
  refine ⟨k3, r3, s3, sm3, q3.mono ?_⟩
  rintro y H3 ⟨κ3, S3, ak, g3, sm3, ry, p3⟩
  unfold putC at p3
  split at p3
  · rename_i n dk dv
    split at p3
    · rename_i ks ds q4
      split at p3
      · rename_i hc
        obtain ⟨h1, h2, h3⟩ := hc
        obtain ⟨a, ha, ex⟩ := rx.grow g3
        obtain ⟨kk, rfl, rfl⟩ := isKey_rep h2 ry
        have rv3 : Rep (cx X) κ3 H3 dv v := Rep.grow g3 (Rep.grow g2 rv)
        have hn : n < S3.length := (List.getElem?_eq_some_iff.mp q4).1
        rcases sm3.cells.ok n _ a q4 ha with ⟨kvs, z, rfl, rr⟩ | ⟨kvs, z, k, rr⟩
        · have g4 : Grow κ3 H3 κ3 (L2.upd H3 a (.dK (putK kvs kk v))) := .cellM (List.mem_of_getElem? ha) z (fun _ z => nomatch z) (fun _ _ z => nomatch z)
          refine ⟨a, _, ex, DPut.k z (mil_lt (by rw [List.length_map] at h3; exact h3)), ?_⟩
          refine p3 σ κ3 _ g4 (sm3.setM g4.stp ha hn (.inl ⟨putK kvs kk v, upd_same, putKs_ok kvs kk v, ?_⟩))
          exact (putVs_ok rv3 rr).grow g4
        · exact (noT k h1).elim
      · exact p3.elim
    · exact p3.elim
  · exact p3.elim
end
/-! ### for k in d, d a cell: locked meanwhile -/
def dKeysF (i : Nat) : Env' → M Walk := fun ρ S => match ρ[i]? with
  | some (some (.cell n)) => match S[n]? with
    | some (.fzd ks _) => if isK ks = true then .ok ⟨ks, []⟩ S else .bad
    | _ => .bad
  | _ => .bad
/-- the dict goes on as it was -/
def thaw (n : Nat) (ks ds : List D) (o : SOut) : SOut := match o with
  | .next ρ S => match S[n]? with
    | some (.fzd _ _) => .next ρ (S.set n (.dct ks ds))
    | _ => .bad
  | _ => .bad
noncomputable def sForD (i : Nat) (b : TB) (fb : SD) : SD := fun ρ S => match ρ[i]? with
  | some (some (.cell n)) => match S[n]? with
    | some (.dct ks ds) => if isK ks = true then thaw n ks ds (forN ⟨ks, []⟩ b fb ks ρ (S.set n (.fzd ks ds))) else .bad
    | _ => .bad
  | _ => .bad
theorem wd_keys {C : Ctx} {κ : Ks} {H : Hp} {a : Addr} {o : Obj} {kvs : List (Key × V)} (h : H a = some (.frz o (.dK kvs))) : WalkD C κ H (Itk a o kvs) ⟨kvs.map (fun p => keyD p.1), []⟩ where
  go := fun i κ2 H2 S2 hi g c lv => ⟨g.frzs _ _ _ h, by simpa using hi⟩
  yld := fun i κ2 H2 S2 x H3 d e g c lv y => by
    obtain ⟨eH, k, v, e1, e2⟩ := y
    subst eH e2
    rw [List.getElem?_map, e1] at e
    cases e
    refine ⟨.refl _ _, c, ?_⟩
    cases k with
    | inl i => exact Rep.int_iff.mpr rfl
    | inr x => exact Rep.str_iff.mpr rfl
  stop := fun κ2 H2 S2 g c lv => ⟨g.frzs _ _ _ h, by simp⟩
section
variable {X : Cx} {W : WX} {pos np : Pos} {tg e : Expr} {x : Str}
theorem di_keysF (i : Nat) (he : PE X e (tVar i)) : DI X W tg e (dKeysF i) := pi_imp (pi_keys he) fun σ H R h => by
  obtain ⟨κ, ρ, S, s, p⟩ := h
  unfold dKeysF at p
  split at p
  · rename_i n q
    split at p
    · rename_i ks ds q2
      split at p
      · rename_i hk
        obtain ⟨v, e1, a, ha, ev⟩ := s.env i _ q
        rcases s.cells.ok n _ a q2 ha with ⟨o, ⟨kvs, z, rfl, rr⟩ | ⟨kvs, z, k, rr⟩⟩
        · exact ⟨v, e1, a, o, ev, .inl ⟨kvs, z, p _ κ H (.refl _ _) s.cells (wd_keys z)⟩⟩
        · exact (noT k hk).elim
      · exact p.elim
    · exact p.elim
  · exact p.elim
theorem ds_forD {body : List Stmt} {i : Nat} {b : TB} {fb : SD} (h : DS X W (.For tg e body [] pos) (sFor (dKeysF i) b fb)) : DS X W (.For tg e body [] pos) (sForD i b fb) :=
  ps_imp (ps_lock h) fun D σ H h1 => by
  obtain ⟨κ, ρ, S, s, p⟩ := h1
  unfold sForD at p
  split at p
  · rename_i n q
    split at p
    · rename_i ks ds q2
      split at p
      · rename_i hk
        obtain ⟨v, e1, a, ha, ev⟩ := s.env i _ q
        have hn : n < S.length := (List.getElem?_eq_some_iff.mp q2).1
        have m : a ∈ κ.cells := List.mem_of_getElem? ha
        rcases s.cells.ok n _ a q2 ha with ⟨kvs, z, rfl, rr⟩ | ⟨kvs, z, k, rr⟩
        · refine ⟨a, .dK kvs, z, trivial, fun od => ?_⟩
          have gl : Grow κ H κ (L2.upd H a (.frz od (.dK kvs))) := .cellM m z (fun _ z => nomatch z) (fun _ _ z => nomatch z)
          have sl := s.setM (x := .fzd (kvs.map fun p => keyD p.1) ds) gl.stp ha hn ⟨od, .inl ⟨kvs, upd_same, rfl, rr.grow gl⟩⟩
          refine ⟨κ, ρ, S.set n (.fzd (kvs.map fun p => keyD p.1) ds), sl, ?_⟩
          have fi : dKeysF i ρ (S.set n (.fzd (kvs.map fun p => keyD p.1) ds)) = .ok ⟨kvs.map fun p => keyD p.1, []⟩ (S.set n (.fzd (kvs.map fun p => keyD p.1) ds)) := by
            unfold dKeysF
            rw [q]
            show (match (S.set n (.fzd (kvs.map fun p => keyD p.1) ds))[n]? with | some (.fzd ks _) => if isK ks = true then Out.ok (Walk.mk ks []) _ else .bad | _ => .bad) = _
            rw [List.getElem?_set_self hn]
            show (if isK (kvs.map fun p => keyD p.1) = true then _ else _) = _
            rw [if_pos hk]
          unfold sFor
          rw [fi]
          show PostS (cx X) κ _ (forN ⟨kvs.map fun p => keyD p.1, []⟩ b fb (kvs.map fun p => keyD p.1) ρ (S.set n (.fzd (kvs.map fun p => keyD p.1) ds))) _ W
          generalize forN ⟨kvs.map fun p => keyD p.1, []⟩ b fb (kvs.map fun p => keyD p.1) ρ (S.set n (.fzd (kvs.map fun p => keyD p.1) ds)) = out at p ⊢
          unfold thaw at p
          split at p
          · rename_i ρ' S'
            split at p
            · rename_i ks' ds' q5
              intro σ' κ' H' g' s'
              have frz := g'.frzs a od (.dK kvs) upd_same
              refine ⟨frz, ?_⟩
              have ha' := g'.get ha
              have hn' : n < S'.length := (List.getElem?_eq_some_iff.mp q5).1
              have st : Stp κ' H' κ' (L2.upd H' a (.dK kvs)) := by
                have m' : a ∈ κ'.cells := List.mem_of_getElem? ha'
                refine ⟨fun b o nb e => ?_, fun b o nb _ => nb, fun b xs e => ?_, fun b o w e k1 k2 => ?_⟩
                · rw [upd_ne (fun z => nb.1 (by rw [z]; exact m'))]; exact e
                · rw [upd_ne (fun z => by rw [z, frz] at e; cases e)]; exact e
                · rw [upd_ne (fun z => by rw [z, frz] at e; cases e; exact k1 _ rfl)]; exact e
              refine p σ' κ' (L2.upd H' a (.dK kvs)) ?_ (s'.setM st ha' hn' (.inl ⟨kvs, upd_same, rfl, ?_⟩))
              · have bne : ∀ b o, H b = some o → b ≠ a → L2.upd H a (.frz od (.dK kvs)) b = some o := fun b o e n => by rw [upd_ne n]; exact e
                refine ⟨g'.pre, fun b mb => ?_, g'.held, fun b o n e => ?_, fun b mb n => ?_, fun b o e => ?_, fun b xs e => ?_, fun b o w e => ?_⟩
                · rcases g'.more b mb with z1 | z1
                  · exact .inl z1
                  · by_cases hb : b = a
                    · rw [hb, upd_same] at z1; cases z1
                    · rw [upd_ne hb] at z1; exact .inr z1
                · have hb : b ≠ a := fun z => n (by rw [z]; exact m)
                  rw [upd_ne hb]; exact g'.keep b o n (bne b o e hb)
                · have z1 := g'.new b mb n
                  by_cases hb : b = a
                  · rw [hb, upd_same] at z1; cases z1
                  · rw [upd_ne hb] at z1; exact z1
                · by_cases hb : b = a
                  · exact ⟨_, by rw [hb]; exact upd_same⟩
                  · rw [upd_ne hb]; exact g'.there b o (bne b o e hb)
                · have hb : b ≠ a := fun z1 => by rw [z1, z] at e; cases e
                  rw [upd_ne hb]; exact g'.tups b xs (bne b _ e hb)
                · have hb : b ≠ a := fun z1 => by rw [z1, z] at e; cases e
                  rw [upd_ne hb]; exact g'.frzs b o w (bne b _ e hb)
              · exact ((rr.grow gl).grow g').stp st
            · exact p.elim
          · exact p.elim
        · exact (noT k hk).elim
      · exact p.elim
    · exact p.elim
  · exact p.elim
end
end Dn

/-! Dn12: built-in functions of modules, isinstance of two classes, xs.count(x). -/
namespace Dn
open PySem PySem.Spec PyProof.Rows L2
/-! ### what the top's names hold -/
inductive Fb where
  | blt (x : Str) (id : String)
  | typ (x : Str) (id : String)
  | chk (g : PySem.W.Frag → Bool)
def Fb.ok (K : PySem.W.Frag) : Fb → Bool
  | .blt x id => He.eqO (PySem.W.nsIn K mainGlobals x) (some (some (.builtin id)))
  | .typ x id => He.eqO (PySem.W.nsIn K mainGlobals x) (some (some (.type id)))
  | .chk g => g K
theorem blt_ok {K : PySem.W.Frag} {h : Heap} {mg : Str → Option Value} (X : K.In h) (G : h.Ns mainGlobals mg) {x : Str} {id : String} (c : (Fb.blt x id).ok K = true) : mg x = some (.builtin id) := PySem.W.mg_of X G (He.eqO_ok c)
theorem typ_ok {K : PySem.W.Frag} {h : Heap} {mg : Str → Option Value} (X : K.In h) (G : h.Ns mainGlobals mg) {x : Str} {id : String} (c : (Fb.typ x id).ok K = true) : mg x = some (.type id) := PySem.W.mg_of X G (He.eqO_ok c)
abbrev AlB : Type := Bool × He.AlD
def obsB (fa : List He.Fa) (fn : List He.DefD) (bs : List Fb) (K : PySem.W.Frag) : AlB := (bs.all fun b => b.ok K, He.obsD fa fn K)
def valB (fn : List He.DefD) : AlB := (true, He.valD fn)
def SaysB (fa : List He.Fa) (fn : List He.DefD) (bs : List Fb) (K : PySem.W.Frag) : Prop := obsB fa fn bs K = valB fn
def obsBG (n : Nat) (fa : List He.Fa) (fn : List He.DefD) (bs : List Fb) (g : Addr → Option Obj) : AlB := obsB fa fn bs (He.frG g (He.asD g n))
def hookB (n : Nat) (fa : List He.Fa) (fn : List He.DefD) (bs : List Fb) : PySem.W.Hook where
  α := AlB
  obs := fun s => obsBG n fa fn bs s.heap.get?
  val := fun _ => valB fn
  says := fun _ h => ∃ K : PySem.W.Frag, K.In h ∧ SaysB fa fn bs K
  of := fun _ _ e => ⟨_, He.frG_in, e⟩
  keeps := fun _ _ _ ⟨K, hK, c⟩ k => ⟨K, PySem.W.Frag.In.keeps hK k, c⟩
theorem obsBG_eq {n : Nat} {fa : List He.Fa} {fn : List He.DefD} {bs : List Fb} {g : Addr → Option Obj} {s : Shared} (h : ∀ a, g a = s.heap.get? a) : obsBG n fa fn bs g = (hookB n fa fn bs).obs s := by
  have e : g = s.heap.get? := funext h
  rw [e] <;> rfl
theorem SaysB.d {fa : List He.Fa} {fn : List He.DefD} {bs : List Fb} {K : PySem.W.Frag} (c : SaysB fa fn bs K) : He.SaysD fa fn K := congrArg (fun z : AlB => z.2) c
theorem SaysB.fb {fa : List He.Fa} {fn : List He.DefD} {bs : List Fb} {K : PySem.W.Frag} (c : SaysB fa fn bs K) (i : Nat) {f : Fb} (h : bs[i]? = some f := by rfl) : f.ok K = true := by
  have c1 : (bs.all fun b => b.ok K) = true := congrArg (fun z : AlB => z.1) c
  exact List.all_eq_true.mp c1 f (List.mem_of_getElem? h)
/-! ### math -/
def combD : List D → Option D
  | [.int a, .int b] => if 0 ≤ a ∧ 0 ≤ b ∧ a ≤ 10000 ∧ b ≤ 9000 then some (.int (PySem.W.mcComb a b)) else none
  | _ => none
def gcdD : List D → Option D
  | [.int a, .int b] => some (.int ((Nat.gcd a.natAbs b.natAbs : Nat) : Int))
  | _ => none
section
variable {X : Cx} {W : WX}
theorem c_comb : CallR X (.builtin "math.comb") (rDc (cx X) combD) := by
  intro pins s σ H xs us Q I r h
  obtain ⟨κ, S, ds, z, c, hx, e, q⟩ := h
  unfold combD at e
  split at e
  · split at e
    · rename_i hj
      cases e
      obtain ⟨u, u2, rfl, r1, r2⟩ := hx.two
      rw [r1.int, r2.int] at r
      obtain ⟨t, t2, rfl⟩ := Vals.int2 r
      exact PySem.W.mc_comb hj.1 hj.2.1 (by omega) (.inl hj.2.2.2) fun _ => ⟨.int _, H, I.tok _, ⟨_, rfl⟩, want c q repInt⟩
    · cases e
  · cases e
theorem c_gcd : CallR X (.builtin "math.gcd") (rDc (cx X) gcdD) := by
  intro pins s σ H xs us Q I r h
  obtain ⟨κ, S, ds, z, c, hx, e, q⟩ := h
  unfold gcdD at e
  split at e
  · cases e
    obtain ⟨u, u2, rfl, r1, r2⟩ := hx.two
    rw [r1.int, r2.int] at r
    exact cr_gcd pins s σ H _ us Q I r ⟨_, _, rfl, want c q repInt⟩
  · cases e
theorem de_callF {x : Str} {p pos : Pos} {e : Expr} {es : List Expr} {id : String} {g : List D → Option D} {fa : Env' → M (List Val)} (hc : CallR X (.builtin id) (rDc (cx X) g)) (hg : Gl X x) (hm : X.mg x = some (.builtin id)) (ha : DA X W (e :: es) fa) (hdb : (x == ("__debug__" : Str)) = false := by decide)
    (he : starEach (e :: es) X.env = (false, eval e X.env) :: starEach es X.env := by rfl) (hpl : (backTo pos (starEach es X.env)).any (·.1) = false := by rfl) : DE X W (.Call (.Name x p) (e :: es) [] pos) (dCallB g fa) :=
  pe_imp (pe_callBfun hc hg hm ha hdb he hpl) fun _ _ _ h => ev_callB h
end
/-! ### isinstance(x, (A, B)) -/
def isi2C (n1 n2 : String) (v : Val) : M Val := fun S => match rd v S with
  | some d => (match isiB d n1, isiB d n2 with
    | some b1, some b2 => .ok (.d (.bl (b1 || b2))) S
    | _, _ => .bad)
  | none => .bad
def dIsi2 (n1 n2 : String) (f : Env' → M Val) : Env' → M Val := fun ρ => M.bind (f ρ) fun v => isi2C n1 n2 v
section
variable {X : Cx} {W : WX} {p p1 p2 tp pos : Pos} {e : Expr} {f : Env' → M Val} {n1 n2 : String} {x1 x2 : Str} {tk : Nat}
theorem de_isi2 (hg : Gl X "isinstance") (hm : X.mg "isinstance" = none) (he : DE X W e f) (hg1 : Gl X x1) (hm1 : X.mg x1 = none) (hv1 : bootBuiltins x1 = some (.type n1)) (hg2 : Gl X x2) (hm2 : X.mg x2 = none) (hv2 : bootBuiltins x2 = some (.type n2))
    (h1 : x1 ≠ "__name__" := by decide) (h2 : x2 ≠ "__name__" := by decide) (d1 : (x1 == ("__debug__" : Str)) = false := by decide) (d2 : (x2 == ("__debug__" : Str)) = false := by decide)
    (s1 : starEach [.Name x1 p1, .Name x2 p2] X.env = (false, eval (.Name x1 p1) X.env) :: starEach [.Name x2 p2] X.env := by rfl) (s2 : starEach [.Name x2 p2] X.env = (false, eval (.Name x2 p2) X.env) :: starEach [] X.env := by rfl)
    (s3 : starEach [e, .Tuple [.Name x1 p1, .Name x2 p2] tk tp] X.env = (false, eval e X.env) :: starEach [.Tuple [.Name x1 p1, .Name x2 p2] tk tp] X.env := by rfl)
    (s4 : starEach [.Tuple [.Name x1 p1, .Name x2 p2] tk tp] X.env = (false, eval (.Tuple [.Name x1 p1, .Name x2 p2] tk tp) X.env) :: starEach [] X.env := by rfl)
    (hpl : (backTo pos (starEach [.Tuple [.Name x1 p1, .Name x2 p2] tk tp] X.env)).any (·.1) = false := by rfl) :
    DE X W (.Call (.Name "isinstance" p) [e, .Tuple [.Name x1 p1, .Name x2 p2] tk tp] [] pos) (dIsi2 n1 n2 f) :=
  pe_imp (pe_callB call_isiT hg hm boot_isinstance (pa_cons he (pa_cons (pe_tup (pa_cons (pe_bltn (v := .ty n1) hg1 hm1 hv1 rfl h1 d1) (pa_cons (pe_bltn (v := .ty n2) hg2 hm2 hv2 rfl h2 d2) pa_nil s2) s1)) pa_nil s4) s3) (by decide) (by decide) s3 hpl) fun σ H Q h => by
  obtain ⟨κ, ρ, S, s, p⟩ := h
  obtain ⟨k1, r1, s1', sm, q⟩ := Ev.bind (rel1 := relV (cx X)) s p
  refine ⟨k1, r1, s1', sm, q.mono ?_⟩
  rintro x H1 ⟨κ1, S1, a, g1, sm1, rx, p1⟩
  refine ⟨by show 2 ≤ sizeLine; decide, fun tpA htp => ?_⟩
  unfold isi2C at p1
  split at p1
  · rename_i d e1
    split at p1
    · rename_i b1 b2 i1 i2
      have gl : Grow κ1 H1 κ1 (L2.upd H1 tpA (.tup [.ty n1, .ty n2])) := .laid htp
      have cl := sm1.cells.laid (o := .tup [.ty n1, .ty n2]) htp
      have rr := rd_rep cl (rx.grow gl) e1
      refine ⟨x, tpA, [.ty n1, .ty n2], .type (tyN d), [.type n1, .type n2], b1 || b2, rfl, upd_same, .cons (.ty n1) (.cons (.ty n2) .nil), tyX rr i1, ?_, p1 _ κ1 _ gl cl RepV.bl⟩
      refine kitAny_cons (kit_ty (isi_kit i1)) (fun hb => ?_) (fun hb => by rw [hb]; rfl)
      subst hb
      refine kitAny_cons (kit_ty (isi_kit i2)) (fun hb => ?_) (fun hb => by rw [hb]; rfl)
      subst hb
      exact kitAny_nil
    · exact p1.elim
  · exact p1.elim
end
end Dn
/-! ### xs.count(x), xs a list of ints -/
namespace Dn
open PySem PySem.Spec PyProof.Rows L2
def isLst (v : Val) : M Unit := fun S => match rd v S with
  | some (.lst _) => .ok () S
  | _ => .bad
def cntC (v a : Val) : M Val := fun S => match rd v S, a with
  | some (.lst xs), .d (.int k) => (match intsD xs with
    | some ns => .ok (.d (.int (ns.count k : Nat))) S
    | none => .bad)
  | _, _ => .bad
def dCount (fo fx : Env' → M Val) : Env' → M Val := fun ρ => M.bind (fo ρ) fun v => M.bind (isLst v) fun _ => M.bind (fx ρ) fun a => cntC v a
theorem isLst_post {C : Ctx} {α β : Type} {rel : Ks → Hp → α → β → Prop} {κ : Ks} {H : Hp} {S : Store} {v : Val} {x : V} {k : Unit → M α} {Q : β → Hp → Prop} {E : XK} (c : Cells C κ H S) (r : RepV C κ H v x) (p : PostG C rel κ H ((isLst v S).bind k) Q E) :
    ∃ a vs, x = .ref a ∧ H a = some (.lst vs) ∧ PostG C rel κ H (k () S) Q E := by
  unfold isLst at p
  cases e : rd v S with
  | none => rw [e] at p; exact p.elim
  | some d =>
    rw [e] at p
    have rr := rd_rep c r e
    cases d with
    | lst xs => obtain ⟨a, vs, e1, e2, _⟩ := rr.lst; exact ⟨a, vs, e1, e2, p⟩
    | _ => exact p.elim
section
variable {X : Cx} {W : WX} {apos cpos : Pos} {o e : Expr} {fo fx : Env' → M Val}
theorem de_count (slot : Slot "list" "count" "list.count" := by exact F.slot_list_count) (pa : PlainAttrs "list" := by exact F.plainAttrs_list) (hty : typeOf (.builtin "list.count") = pure (.type "method_descriptor") := by exact F.type_list_count) (ho : DE X W o fo) (hx : DE X W e fx)
    (hbase : attributeBase o "count" X.env (eval o X.env) = eval o X.env := by rfl)
    (hfew : ((backTo cpos (starEach [e] X.env)).all (fun x => !x.1) && (backToKw cpos (keywordEach [] X.env)).all (fun x => x.1.isSome)
      && decide ([e].length + ([] : List Keyword).length + (if ([] : List Keyword).isEmpty then 0 else 1) < 30)) = true := by rfl)
    (hline : (apos.endLine == cpos.line) = true := by rfl) (hs : starEach [e] X.env = (false, eval e X.env) :: starEach [] X.env := by rfl) (hplain : (backTo cpos (starEach [] X.env)).any (·.1) = false := by rfl) :
    DE X W (.Call (.Attribute o "count" apos) [e] [] cpos) (dCount fo fx) := pe_imp (pe_bm pa slot hty mt_lcount ho (pa_cons hx pa_nil hs) hbase hfew hline hs hplain) fun σ H Q h => by
  obtain ⟨κ, ρ, S, s, p⟩ := h
  obtain ⟨k1, r1, s1, sm, q⟩ := Ev.bind (rel1 := relV (cx X)) s p
  refine ⟨k1, r1, s1, sm, q.mono ?_⟩
  rintro x H1 ⟨κ1, S1, v, g1, sm1, rx, p1⟩
  obtain ⟨a, vs, ex, hl, p2⟩ := isLst_post sm1.cells rx p1
  refine ⟨by rw [ex]; exact .inl ⟨rfl, vs, .inl (.inl hl)⟩, arg_one ?_⟩
  obtain ⟨k2, r2, s2, sm2, q2⟩ := Ev.bind (rel1 := relV (cx X)) sm1 p2
  refine ⟨k2, r2, s2, sm2, q2.mono ?_⟩
  rintro y H2 ⟨κ2, S2, w, g2, sm2, ry, p3⟩
  unfold cntC at p3
  split at p3
  · rename_i xs k e1
    split at p3
    · rename_i ns e2
      obtain ⟨a2, vs2, ex2, hl2, rr⟩ := (rd_rep sm2.cells (rx.grow g2) e1).lst
      rw [intsD_eq e2] at rr
      rw [rr.ints] at hl2
      rw [Rep.int_iff.mp (show Rep (cx X) κ2 H2 (.int k) y from ry)]
      exact ⟨a2, ns, k, ex2, rfl, .inl (.inl hl2), PostG.ok (a := Val.d (.int (ns.count k : Nat))) p3 sm2.cells RepV.int⟩
    · exact p3.elim
  · exact p3.elim
end
theorem units1 {k : Nat} {A : Around} (hr : Room k A) : A.units + 1 < cLine := by
  have := hr.un
  omega
end Dn
namespace Dn
open PySem PySem.Spec PyProof.Rows L2
theorem dkf {X : Cx} {W : WX} {tg : Expr} (i : Nat) {x : Str} {pos : Pos} (hN : X.N[i]? = some x := by rfl) (hv : Vis X.env.scope x := by first | exact Or.inl rfl | exact Or.inr (Or.inl rfl) | exact Or.inr (Or.inr rfl)) (hd : (x == ("__debug__" : Str)) = false := by decide)
    (hcd : (x == ("__classdict__" : Str)) = false := by decide) : DI X W tg (.Name x pos) (dKeysF i) := di_keysF i (pv i hN hv hd hcd)
end Dn
/-! ### [elt for k in d if ..], d a cell: locked meanwhile -/
namespace Dn
open PySem PySem.Spec PyProof.Rows L2
theorem grow_unlock {κ κ' : Ks} {H H' : Hp} {a : Addr} {od : Obj} {u : HO} (m : a ∈ κ.cells) (z : H a = some u) (ht : ∀ xs, u ≠ .tup xs) (hf : ∀ q w, u ≠ .frz q w) (g' : Grow κ (L2.upd H a (.frz od u)) κ' H') : Grow κ H κ' (L2.upd H' a u) := by
  have bne : ∀ b o, H b = some o → b ≠ a → L2.upd H a (.frz od u) b = some o := fun b o e n => by rw [upd_ne n]; exact e
  refine ⟨g'.pre, fun b mb => ?_, g'.held, fun b o n e => ?_, fun b mb n => ?_, fun b o e => ?_, fun b xs e => ?_, fun b o w e => ?_⟩
  · rcases g'.more b mb with z1 | z1
    · exact .inl z1
    · by_cases hb : b = a
      · rw [hb, upd_same] at z1; cases z1
      · rw [upd_ne hb] at z1; exact .inr z1
  · have hb : b ≠ a := fun z => n (by rw [z]; exact m)
    rw [upd_ne hb]; exact g'.keep b o n (bne b o e hb)
  · have z1 := g'.new b mb n
    by_cases hb : b = a
    · rw [hb, upd_same] at z1; cases z1
    · rw [upd_ne hb] at z1; exact z1
  · by_cases hb : b = a
    · exact ⟨_, by rw [hb]; exact upd_same⟩
    · rw [upd_ne hb]; exact g'.there b o (bne b o e hb)
  · have hb : b ≠ a := fun z1 => by rw [z1, z] at e; exact ht _ (Option.some.inj e)
    rw [upd_ne hb]; exact g'.tups b xs (bne b _ e hb)
  · have hb : b ≠ a := fun z1 => by rw [z1, z] at e; exact hf _ _ (Option.some.inj e)
    rw [upd_ne hb]; exact g'.frzs b o w (bne b _ e hb)
def thawN (n : Nat) (o : Out (List D)) : Out (List D) := match o with
  | .ok xs S => match S[n]? with
    | some (.fzd ks ds) => .ok xs (S.set n (.dct ks ds))
    | _ => .bad
  | _ => .bad
noncomputable def nLcD (i : Nat) (b : TB) (cond : Env' → M Bool) (elt : Env' → M Val) (vs : List Nat) : Env' → M (List D) := fun ρ S => match ρ[i]? with
  | some (some (.cell n)) => match S[n]? with
    | some (.dct ks ds) => if isK ks = true then thawN n (lcN ⟨ks, []⟩ b cond elt (wipeE ρ vs) ks [] (S.set n (.fzd ks ds))) else .bad
    | _ => .bad
  | _ => .bad
theorem dn_lock {X : Cx} {W : WX} {e : Expr} {i : Nat} {b : TB} {cond : Env' → M Bool} {elt : Env' → M Val} {vs : List Nat} (h : DN X W e (nLc (dKeysF i) b cond elt vs)) : DN X W e (nLcD i b cond elt vs) :=
  pe_imp (pe_lock h) fun σ H Q h1 => by
  obtain ⟨κ, ρ, S, s, p⟩ := h1
  unfold nLcD at p
  split at p
  · rename_i n q
    split at p
    · rename_i ks ds q2
      split at p
      · rename_i hk
        obtain ⟨v, e1, a, ha, ev⟩ := s.env i _ q
        have hn : n < S.length := (List.getElem?_eq_some_iff.mp q2).1
        have m : a ∈ κ.cells := List.mem_of_getElem? ha
        rcases s.cells.ok n _ a q2 ha with ⟨kvs, z, rfl, rr⟩ | ⟨kvs, z, k, rr⟩
        · refine ⟨a, .dK kvs, z, trivial, fun od => ?_⟩
          have gl : Grow κ H κ (L2.upd H a (.frz od (.dK kvs))) := .cellM m z (fun _ z => nomatch z) (fun _ _ z => nomatch z)
          have sl := s.setM (x := .fzd (kvs.map fun p => keyD p.1) ds) gl.stp ha hn ⟨od, .inl ⟨kvs, upd_same, rfl, rr.grow gl⟩⟩
          refine ⟨κ, ρ, S.set n (.fzd (kvs.map fun p => keyD p.1) ds), sl, ?_⟩
          have fi : dKeysF i ρ (S.set n (.fzd (kvs.map fun p => keyD p.1) ds)) = .ok ⟨kvs.map fun p => keyD p.1, []⟩ (S.set n (.fzd (kvs.map fun p => keyD p.1) ds)) := by
            unfold dKeysF
            rw [q]
            show (match (S.set n (.fzd (kvs.map fun p => keyD p.1) ds))[n]? with | some (.fzd ks _) => if isK ks = true then Out.ok (Walk.mk ks []) _ else .bad | _ => .bad) = _
            rw [List.getElem?_set_self hn]
            show (if isK (kvs.map fun p => keyD p.1) = true then _ else _) = _
            rw [if_pos hk]
          unfold nLc M.bind
          rw [fi]
          show PostN (cx X) κ _ (lcN ⟨kvs.map fun p => keyD p.1, []⟩ b cond elt (wipeE ρ vs) (kvs.map fun p => keyD p.1) [] (S.set n (.fzd (kvs.map fun p => keyD p.1) ds))) _ _
          generalize lcN ⟨kvs.map fun p => keyD p.1, []⟩ b cond elt (wipeE ρ vs) (kvs.map fun p => keyD p.1) [] (S.set n (.fzd (kvs.map fun p => keyD p.1) ds)) = out at p ⊢
          unfold thawN at p
          split at p
          · rename_i xs S'
            split at p
            · rename_i ks' ds' q5
              intro pp us κ' H' g' hp nm hl c' r'
              have frz := g'.frzs a od (.dK kvs) upd_same
              refine ⟨frz, ?_⟩
              have hpa : pp ≠ a := fun e => by rw [e, upd_same] at hp; cases hp
              have ha' : (κ'.ex pp).cells[n]? = some a := g'.get ha
              have hn' : n < S'.length := (List.getElem?_eq_some_iff.mp q5).1
              have st : Stp (κ'.ex pp) H' (κ'.ex pp) (L2.upd H' a (.dK kvs)) := by
                have m' : a ∈ (κ'.ex pp).cells := List.mem_of_getElem? ha'
                refine ⟨fun b o nb e => ?_, fun b o nb _ => nb, fun b xs e => ?_, fun b o w e k1 k2 => ?_⟩
                · rw [upd_ne (fun z => nb.1 (by rw [z]; exact m'))]; exact e
                · rw [upd_ne (fun z => by rw [z, frz] at e; cases e)]; exact e
                · rw [upd_ne (fun z => by rw [z, frz] at e; cases e; exact k1 _ rfl)]; exact e
              have ok' : (∃ kvs' : List (Key × V), H' a = some (.frz od (.dK kvs')) ∧ ks' = kvs'.map (fun p => keyD p.1) ∧ RepL (cx X) (κ'.ex pp) H' ds' (kvs'.map (·.2))) := by
                rcases c'.ok n _ a q5 ha' with ⟨o, ⟨kvs', z', k', r2⟩ | ⟨kvs', z', k', r2⟩⟩
                · rw [frz] at z'
                  cases z'
                  exact ⟨kvs, frz, k', r2⟩
                · rw [frz] at z'
                  cases z'
              obtain ⟨kvs', z', k', rr'⟩ := ok'
              rw [frz] at z'
              cases z'
              refine p pp us κ' (L2.upd H' a (.dK kvs)) (grow_unlock m z (fun _ z => nomatch z) (fun _ _ z => nomatch z) g') ?_ nm ?_ (c'.setM st ha' hn' (.inl ⟨kvs, upd_same, k', rr'.stp st⟩)) (r'.stp st)
              · rw [upd_ne hpa] at hp; exact hp
              · rw [upd_ne hpa]; exact hl
            · exact p.elim
          · exact p.elim
        · exact (noT k hk).elim
      · exact p.elim
    · exact p.elim
  · exact p.elim
end Dn

/-! Dn13: dicts with tuple keys as cells (their keys begin with a mark). -/
namespace Dn
open PySem PySem.Spec PyProof.Rows L2
/-! ### keys -/
def keysB : List D → List D → Bool
  | [], [] => true
  | x :: xs, y :: ys => keyB x y && keysB xs ys
  | _, _ => false
theorem keysB_eq : ∀ a b : List Key, keysB (a.map keyD) (b.map keyD) = decide (a = b)
  | [], [] => rfl
  | [], _ :: _ => (decide_eq_false (fun h => nomatch h)).symm
  | _ :: _, [] => (decide_eq_false (fun h => nomatch h)).symm
  | a :: as, b :: bs => by
    show (keyB (keyD a) (keyD b) && keysB (as.map keyD) (bs.map keyD)) = _
    rw [keyB_eq, keysB_eq as bs, ← Bool.decide_and]
    exact decide_eq_decide.mpr ⟨fun h => by rw [h.1, h.2], fun h => by injection h with h1 h2; exact ⟨h1, h2⟩⟩
def keyT : D → D → Bool
  | .tup xs, .tup ys => keysB xs ys
  | _, _ => false
def tD (k : List Key) : D := .tup (k.map keyD)
theorem keyT_eq (a b : List Key) : keyT (tD a) (tD b) = decide (a = b) := keysB_eq a b
def isKeyT : D → Bool
  | .tup xs => xs.all isKey
  | _ => false
theorem keys_rep {C : Ctx} {κ : Ks} {H : Hp} : ∀ {xs : List D} {vs : List V}, xs.all isKey = true → RepL C κ H xs vs → ∃ k : List Key, xs = k.map keyD ∧ vs = k.map kV
  | [], vs, _, r => by
    exact ⟨[], rfl, List.eq_nil_of_length_eq_zero r.length⟩
  | x :: xs, vs, h, r => by
    obtain ⟨v, r', e, h1, h2⟩ := r.cons_inv
    have h := (List.all_cons ▸ h : (isKey x && xs.all isKey) = true)
    rw [Bool.and_eq_true] at h
    obtain ⟨k, e1, e2⟩ := isKey_rep h.1 h1
    obtain ⟨ks, e3, e4⟩ := keys_rep h.2 h2
    exact ⟨k :: ks, by rw [e1, e3]; rfl, by rw [e, e2, e4]; rfl⟩
theorem isKeyT_rep {C : Ctx} {κ : Ks} {H : Hp} {d : D} {v : V} (h : isKeyT d = true) (r : Rep C κ H d v) : ∃ (k : List Key) (b : Addr), d = tD k ∧ v = .ref b ∧ H b = some (.tup (k.map kV)) := by
  cases d with
  | tup xs =>
    obtain ⟨b, vs, e1, e2, e3⟩ := Rep.tup_iff.mp r
    obtain ⟨k, e4, e5⟩ := keys_rep h e3
    exact ⟨k, b, by rw [e4]; rfl, e1, by rw [e2, e5]⟩
  | _ => cases h
theorem RepL.of_keys {C : Ctx} {κ : Ks} {H : Hp} : ∀ k : List Key, RepL C κ H (k.map keyD) (k.map kV)
  | [] => .nil
  | .inl i :: k => .cons (Rep.int_iff.mpr rfl) (RepL.of_keys k)
  | .inr x :: k => .cons (Rep.str_iff.mpr rfl) (RepL.of_keys k)
def lookT (k : D) : List D → List D → Option D
  | a :: ks, d :: ds => if keyT a k = true then some d else lookT k ks ds
  | _, _ => none
def putKsT (k : D) (ks : List D) : List D := if (ks.any fun a => keyT a k) = true then ks else ks ++ [k]
def putVsT (k v : D) (ks ds : List D) : List D := if (ks.any fun a => keyT a k) = true then List.zipWith (fun a d => if keyT a k = true then v else d) ks ds else ds ++ [v]
theorem lookT_ok {C : Ctx} {κ : Ks} {H : Hp} (k : List Key) : ∀ (kvs : List (List Key × V)) (ds : List D), RepL C κ H ds (kvs.map (·.2)) →
    match lookT (tD k) (kvs.map fun p => tD p.1) ds, valV kvs k with
    | some d, some v => Rep C κ H d v
    | none, none => True
    | _, _ => False
  | [], ds, h => by
    show match lookT (tD k) [] ds, valV ([] : List (List Key × V)) k with
      | some d, some v => Rep C κ H d v
      | none, none => True
      | _, _ => False
    rw [valV_nil]
    cases ds <;> trivial
  | p :: r, [], h => by
    have := h.length
    cases this
  | p :: r, d :: ds, h => by
    obtain ⟨v, vs, e, h1, h2⟩ := h.cons_inv
    injection e with e1 e2
    subst e1 e2
    show match (if keyT (tD p.1) (tD k) = true then some d else lookT (tD k) (r.map fun p => tD p.1) ds), valV (p :: r) k with
      | some d, some v => Rep C κ H d v
      | none, none => True
      | _, _ => False
    rw [keyT_eq]
    by_cases q : p.1 = k
    · rw [if_pos (decide_eq_true q), valV_pos q]; exact h1
    · rw [if_neg (by simpa using q), valV_neg q]; exact lookT_ok k r ds h2
theorem any_keysT (k : List Key) (kvs : List (List Key × V)) : ((kvs.map fun p => tD p.1).any fun a => keyT a (tD k)) = kvs.any fun kv => decide (kv.1 = k) := by
  rw [List.any_map]
  congr 1
  funext p
  exact keyT_eq p.1 k
theorem putK_eqT (kvs : List (List Key × V)) (k : List Key) (y : V) : putK kvs k y = if (kvs.any fun kv => decide (kv.1 = k)) = true then kvs.map (fun kv => if kv.1 = k then (kv.1, y) else kv) else kvs ++ [(k, y)] := rfl
theorem putKsT_ok (kvs : List (List Key × V)) (k : List Key) (y : V) : putKsT (tD k) (kvs.map fun p => tD p.1) = (putK kvs k y).map fun p => tD p.1 := by
  unfold putKsT
  rw [any_keysT, putK_eqT]
  split
  · rw [List.map_map]
    apply List.map_congr_left
    intro p _
    show tD p.1 = tD (if p.1 = k then (p.1, y) else p).1
    split <;> rfl
  · rw [List.map_append]; rfl
theorem putVsT_map {C : Ctx} {κ : Ks} {H : Hp} {k : List Key} {dv : D} {y : V} (hv : Rep C κ H dv y) : ∀ (kvs : List (List Key × V)) (ds : List D), RepL C κ H ds (kvs.map (·.2)) →
    RepL C κ H (List.zipWith (fun a d => if keyT a (tD k) = true then dv else d) (kvs.map fun p => tD p.1) ds) ((kvs.map fun kv => if kv.1 = k then (kv.1, y) else kv).map (·.2))
  | [], ds, h => by
    have := h.length
    obtain rfl : ds = [] := List.eq_nil_of_length_eq_zero (by simpa using this.symm)
    exact .nil
  | p :: r, [], h => by
    have := h.length
    cases this
  | p :: r, d :: ds, h => by
    obtain ⟨v, vs, e, h1, h2⟩ := h.cons_inv
    injection e with e1 e2
    subst e1 e2
    rw [List.map_cons, List.map_cons, List.map_cons, List.zipWith_cons_cons]
    refine .cons ?_ (putVsT_map hv r ds h2)
    rw [keyT_eq]
    by_cases q : p.1 = k
    · rw [if_pos (decide_eq_true q), if_pos q]; exact hv
    · rw [if_neg (by simpa using q), if_neg q]; exact h1
theorem putVsT_ok {C : Ctx} {κ : Ks} {H : Hp} {k : List Key} {dv : D} {y : V} {kvs : List (List Key × V)} {ds : List D} (hv : Rep C κ H dv y) (h : RepL C κ H ds (kvs.map (·.2))) :
    RepL C κ H (putVsT (tD k) dv (kvs.map fun p => tD p.1) ds) ((putK kvs k y).map (·.2)) := by
  unfold putVsT
  rw [any_keysT, putK_eqT]
  split
  · exact putVsT_map hv kvs ds h
  · rw [List.map_append]; exact h.append (.cons hv .nil)
/-! ### the dict of a cell -/
def tOf (v : Val) (S : Store) : Option (List D × List D) := match v with
  | .cell n => match S[n]? with
    | some (.dct (.non :: ks) ds) => some (ks, ds)
    | some (.fzd (.non :: ks) ds) => some (ks, ds)
    | _ => none
  | _ => none
theorem noK {kvs : List (Key × V)} {ks : List D} (h : D.non :: ks = kvs.map (fun p => keyD p.1)) : False := by
  cases kvs with
  | nil => cases h
  | cons p r =>
    obtain ⟨k, v⟩ := p
    cases k <;> cases h
theorem tOf_ok {C : Ctx} {κ : Ks} {H : Hp} {S : Store} {v : Val} {x : V} {ks ds : List D} (c : Cells C κ H S) (r : RepV C κ H v x) (e : tOf v S = some (ks, ds)) :
    ∃ a kvs, x = .ref a ∧ Rd H a (.dT kvs) ∧ ks = kvs.map (fun p => tD p.1) ∧ RepL C κ H ds (kvs.map (·.2)) := by
  unfold tOf at e
  split at e
  · rename_i n
    obtain ⟨a, ha, ex⟩ := r
    split at e
    · rename_i ks' ds' q
      cases e
      rcases c.ok n _ a q ha with ⟨kvs, z, k, rr⟩ | ⟨kvs, z, k, rr⟩
      · exact (noK k).elim
      · injection k with _ k
        exact ⟨a, kvs, ex, .inl z, k, rr⟩
    · rename_i ks' ds' q
      cases e
      rcases c.ok n _ a q ha with ⟨o, ⟨kvs, z, k, rr⟩ | ⟨kvs, z, k, rr⟩⟩
      · exact (noK k).elim
      · injection k with _ k
        exact ⟨a, kvs, ex, .inr ⟨o, z⟩, k, rr⟩
    · cases e
  · cases e
/-! ### {}, {(i, j): v} -/
def dNewT : Env' → M Val := fun _ S => .ok (.cell S.length) (S ++ [.dct [.non] []])
theorem newT_post {C : Ctx} {κ : Ks} {H : Hp} {S : Store} {p : Addr} {kvs : List (List Key × V)} {ks ds : List D} {Q : VK} {E : XK} (c : Cells C κ H S) (hp : H p = none) (k : ks = .non :: kvs.map (fun p => tD p.1)) (r : RepL C (κ.ex p) (upd H p (.dT kvs)) ds (kvs.map (·.2)))
    (h : PostG C (relV C) κ H (.ok (.cell S.length) (S ++ [.dct ks ds])) Q E) : Q (.ref p) (upd H p (.dT kvs)) := by
  have cl : Cells C (κ.ex p) (upd H p (.dT kvs)) S := c.lay_ex hp
  exact h (.ref p) (κ.push p) (upd H p (.dT kvs)) ((Grow.laid hp).push hp) (cl.push (x := .dct ks ds) (c.out hp).2 (.inr ⟨kvs, upd_same, k, r⟩)) ⟨p, push_at cl, rfl⟩
section
variable {X : Cx} {W : WX} {pos p1 p2 : Pos}
theorem de_newT : DE X W (.Dict [] [] pos) dNewT := pe_imp pe_dnewT fun σ H Q h => by
  obtain ⟨κ, ρ, S, s, p⟩ := h
  intro a ha
  exact newT_post (kvs := []) s.cells ha rfl .nil p
end

/-! {k: v}, k a tuple -/
section
variable {X : Cx} {pos : Pos}
def tDispT (tk tv : TE) : TE := fun σ H Q => ∀ p, H p = none → tk σ (upd H p (.dT [])) fun x H1 => tv σ H1 fun y H2 => H2 p = some (.dT []) ∧ ∃ (b : Addr) (ks : List Key), x = .ref b ∧ H2 b = some (.tup (ks.map kV)) ∧ Q (.ref p) (upd H2 p (.dT [(ks, y)]))
def tDispT2 (tk tv tk2 tv2 : TE) : TE := fun σ H Q => ∀ p, H p = none → tk σ (upd H p (.dT [])) fun x H1 => tv σ H1 fun y H2 => tk2 σ H2 fun x2 H3 => tv2 σ H3 fun y2 H4 => H4 p = some (.dT []) ∧
  ∃ (b b2 : Addr) (ks ks2 : List Key), ks ≠ ks2 ∧ x = .ref b ∧ H4 b = some (.tup (ks.map kV)) ∧ x2 = .ref b2 ∧ H4 b2 = some (.tup (ks2.map kV)) ∧ Q (.ref p) (upd H4 p (.dT [(ks, y), (ks2, y2)]))
theorem d_store {pins : List (Addr × Obj)} {σ : L2.St} {H : Hp} {s : Shared} {a b : Addr} {v : V} {r : Value} {k : List Key} {kvs : List (List Key × V)} {A : Around} {E : Value → Shared → Prop} {Q : Unit → Shared → Prop} (hu : A.units < cLine) (I : L2.Inv X pins σ H s) (e : H a = some (.dT kvs)) (eb : H b = some (.tup (k.map kV))) (l : kvs.length < sizeLine) (rv : RelV v r)
    (h : ∀ s', L2.Inv X pins σ (upd H a (.dT (putK kvs k v))) s' → Q () s') : wpAny (model X.prog X.w) A (dictSet a (.ref b) r) Q E s := by
  obtain ⟨z, hd, xs, rel, dd⟩ := dt_of I.hok e
  have hz : xs.length ≤ sizeLine := by rw [← Paired.length rel]; exact z
  have hl : (putK kvs k v).length ≤ sizeLine := by have := length_putK kvs k v; omega
  refine wpAny_dictSet_heap (hsz := hz) (knd := tupleKind (mixKind X.prog X.w)) hu (key_of I.hok eb) dd fun h' dd' hs => h _ ?_
  obtain ⟨q, es, ep, hq, h2, h3, h4, _, h5⟩ := dd'
  refine d_write I (by rw [e]; exact True.intro) hs ⟨q, hq⟩ ⟨hl, hd, _, (rel.put k eb rv).keeps fun c ys ec => ?_, q, es, ep, hq, h2, h3, h4, h5⟩
  rw [L2.upd_ne (fun z => by rw [z, e] at ec; cases ec)]
  exact ec
theorem pe_dispT {k v : Expr} {tk tv : TE} (hu : X.A.units < cLine) (hk : PE X k tk) (hv : PE X v tv) : PE X (.Dict [some k] [v] pos) (tDispT tk tv) := by
  refine ⟨fun pins s σ H Q I q => ?_⟩
  have hn := I.hok.fresh (Nat.le_refl s.heap.objs.size)
  have I1 := I.laid (a := s.heap.objs.size) (o := .dT []) (h' := s.heap.push { cls := .type "dict", data := .dict #[] }) (t' := s.toks) (fun _ _ q => Heap.get?_push_of_some _ q) (Nat.le_refl _) (dt_empty s.heap I.big)
  refine wpAny_Dict_any rfl rfl (by simp) (by simp) (thn ((pps_cons hk hv pps_nil).run pins _ σ _ (fun ps H2 => match ps with
    | [(x, y)] => H2 s.heap.objs.size = some (.dT []) ∧ ∃ (b : Addr) (ks : List Key), x = .ref b ∧ H2 b = some (.tup (ks.map kV)) ∧ Q (.ref s.heap.objs.size) (upd H2 s.heap.objs.size (.dT [(ks, y)]))
    | _ => False) I1 (q _ hn)) fun ws s2 ⟨ps, H2, I2, rel, h2⟩ => ?_)
  split at h2
  · rename_i x y
    obtain ⟨e, b, ks, ex, eb, q2⟩ := h2
    subst ex
    cases rel with
    | @cons p0 w0 ps0 ws0 r1 r2 =>
      cases r2
      obtain ⟨u, r⟩ := w0
      obtain ⟨ru, rr⟩ := r1
      cases (show u = Value.ref b from ru)
      unfold storeAll
      rw [List.forIn_cons]
      refine wpAny_bind (wpAny_bind (d_store hu I2 e eb (by rw [sizeLine_eq]; simp) rr fun s3 I3 => wpAny_pure ?_))
      show wpAny _ _ (forIn ([] : List (Value × Value)) _ _) _ _ _
      rw [List.forIn_nil]
      exact wpAny_pure ⟨.ref s.heap.objs.size, _, I3, rfl, q2⟩
  · exact h2.elim
theorem pe_dispT2 {k v k2 v2 : Expr} {tk tv tk2 tv2 : TE} (hu : X.A.units < cLine) (hk : PE X k tk) (hv : PE X v tv) (hk2 : PE X k2 tk2) (hv2 : PE X v2 tv2) : PE X (.Dict [some k, some k2] [v, v2] pos) (tDispT2 tk tv tk2 tv2) := by
  refine ⟨fun pins s σ H Q I q => ?_⟩
  have hn := I.hok.fresh (Nat.le_refl s.heap.objs.size)
  have I1 := I.laid (a := s.heap.objs.size) (o := .dT []) (h' := s.heap.push { cls := .type "dict", data := .dict #[] }) (t' := s.toks) (fun _ _ q => Heap.get?_push_of_some _ q) (Nat.le_refl _) (dt_empty s.heap I.big)
  refine wpAny_Dict_any rfl rfl (by simp) (by simp) (thn ((pps_cons hk hv (pps_cons hk2 hv2 pps_nil)).run pins _ σ _ (fun ps H4 => match ps with
    | [(x, y), (x2, y2)] => H4 s.heap.objs.size = some (.dT []) ∧ ∃ (b b2 : Addr) (ks ks2 : List Key), ks ≠ ks2 ∧ x = .ref b ∧ H4 b = some (.tup (ks.map kV)) ∧ x2 = .ref b2 ∧ H4 b2 = some (.tup (ks2.map kV)) ∧ Q (.ref s.heap.objs.size) (upd H4 s.heap.objs.size (.dT [(ks, y), (ks2, y2)]))
    | _ => False) I1 (q _ hn)) fun ws s2 ⟨ps, H2, I2, rel, h2⟩ => ?_)
  split at h2
  · rename_i x y x2 y2
    obtain ⟨e, b, b2, ks, ks2, ne, ex, eb, ex2, eb2, q2⟩ := h2
    subst ex ex2
    cases rel with
    | @cons p0 w0 ps0 ws0 r1 r2 =>
      cases r2 with
      | @cons p1 w1 ps1 ws1 r3 r4 =>
        cases r4
        obtain ⟨u, r⟩ := w0
        obtain ⟨ru, rr⟩ := r1
        obtain ⟨u2, r2⟩ := w1
        obtain ⟨ru2, rr2⟩ := r3
        cases (show u = Value.ref b from ru)
        cases (show u2 = Value.ref b2 from ru2)
        unfold storeAll
        rw [List.forIn_cons]
        refine wpAny_bind (wpAny_bind (d_store hu I2 e eb (by rw [sizeLine_eq]; simp) rr fun s3 I3 => wpAny_pure ?_))
        show wpAny _ _ (forIn [(Value.ref b2, r2)] _ _) _ _ _
        rw [List.forIn_cons]
        refine wpAny_bind (wpAny_bind (d_store hu I3 L2.upd_same (k := ks2) (by rw [L2.upd_ne (fun z => by rw [z, e] at eb2; cases eb2)]; exact eb2) (by rw [sizeLine_eq]; simp [putK]) rr2 fun s4 I4 => wpAny_pure ?_))
        show wpAny _ _ (forIn ([] : List (Value × Value)) _ _) _ _ _
        rw [List.forIn_nil]
        refine wpAny_pure ⟨.ref s.heap.objs.size, _, I4, rfl, ?_⟩
        rw [L2.upd_upd]
        have pk : putK (putK ([] : List (List Key × V)) ks y) ks2 y2 = [(ks, y), (ks2, y2)] := by
          show putK [(ks, y)] ks2 y2 = _
          rw [putK_eqT]
          simp [ne]
        rw [pk]
        exact q2
  · exact h2.elim
/-- a tuple of written numbers -/
def tTupC (ks : List Int) : TE := fun _ H Q => ∀ p, H p = none → Q (.ref p) (upd H p (.tup (ks.map V.int)))
theorem pe_negC {i : Int} {j p1 p2 : _} : PE X (.UnaryOp .USub (.Constant (.int i) j p1) p2) (tC (.int (-i))) := pe_imp (pe_un un_neg pe_int) fun σ H Q h => ⟨i, rfl, h⟩
theorem pe_tupC {es : List Expr} {x1 : _} {ks : List Int} {t : TA} (h : PA X es t) (ht : ∀ σ H Q, Q (ks.map V.int) H → t σ H Q) (hz : ks.length ≤ 1000000) : PE X (.Tuple es x1 pos) (tTupC ks) :=
  pe_imp (pe_tup h) fun σ H Q q => ht σ H _ ⟨mil_line (by rw [List.length_map]; exact hz), q⟩
end

def tI (ks : List Int) : D := .tup (ks.map D.int)
theorem tI_eq (ks : List Int) : tI ks = tD (ks.map Sum.inl) := by
  unfold tI tD
  rw [List.map_map]; rfl
theorem inl_inj {a b : List Int} (h : (a.map Sum.inl : List Key) = b.map Sum.inl) : a = b := by
  have := congrArg (List.map fun k : Key => match k with | .inl i => i | .inr _ => 0) h
  simpa [List.map_map, Function.comp_def] using this
theorem kV_ints (ks : List Int) : ((ks.map Sum.inl : List Key).map kV) = ks.map V.int := by
  rw [List.map_map]; rfl
def dNewT1 (ks : List Int) (j : Int) : Env' → M Val := fun _ S => .ok (.cell S.length) (S ++ [.dct [.non, tI ks] [.int j]])
def dNewT2 (ks : List Int) (j : Int) (ks2 : List Int) (j2 : Int) : Env' → M Val := fun _ S => .ok (.cell S.length) (S ++ [.dct [.non, tI ks, tI ks2] [.int j, .int j2]])
def dNewTv (i : Nat) (j : Int) : Env' → M Val := fun ρ S => match ρ[i]? with
  | some (some (.d d)) => if isKeyT d = true then .ok (.cell S.length) (S ++ [.dct [.non, d] [.int j]]) else .bad
  | _ => .bad
theorem upd_comm {H : Hp} {p q : Addr} {o u w : HO} (n : p ≠ q) : upd (upd (upd H p o) q u) p w = upd (upd H q u) p w := by
  funext b
  by_cases h : b = p
  · rw [h, upd_same, upd_same]
  · rw [upd_ne h, upd_ne h]
    by_cases g : b = q
    · rw [g, upd_same, upd_same]
    · rw [upd_ne g, upd_ne g, upd_ne h]
theorem upd_comm2 {H : Hp} {p q r : Addr} {o u u2 w : HO} (n : p ≠ q) : upd (upd (upd (upd H p o) q u) r u2) p w = upd (upd (upd H q u) r u2) p w := by
  funext b
  by_cases h : b = p
  · rw [h, upd_same, upd_same]
  · rw [upd_ne h, upd_ne h]
    by_cases g : b = r
    · rw [g, upd_same, upd_same]
    · rw [upd_ne g, upd_ne g]
      by_cases g : b = q
      · rw [g, upd_same, upd_same]
      · rw [upd_ne g, upd_ne g, upd_ne h]
section
variable {X : Cx} {W : WX} {pos : Pos} {k v k2 v2 : Expr}
theorem de_newT1 {ks : List Int} {j : Int} (hu : X.A.units + 1 < cLine) (hk : PE X k (tTupC ks)) (hv : PE X v (tC (.int j))) : DE X W (.Dict [some k] [v] pos) (dNewT1 ks j) := pe_imp (pe_dispT (Nat.lt_of_succ_lt hu) hk hv) fun σ H Q h => by
  obtain ⟨κ, ρ, S, s, p0⟩ := h
  intro p hp q hq
  have n : p ≠ q := fun e => by rw [← e, upd_same] at hq; cases hq
  have hq0 : H q = none := by rw [upd_ne (fun e => n e.symm)] at hq; exact hq
  show upd (upd H p (.dT [])) q (.tup (ks.map V.int)) p = some (.dT []) ∧ _
  refine ⟨by rw [upd_ne n]; exact upd_same, q, ks.map Sum.inl, rfl, by rw [kV_ints]; exact upd_same, ?_⟩
  rw [upd_comm n]
  have hp1 : upd H q (.tup (ks.map V.int)) p = none := by rw [upd_ne n]; exact hp
  have c1 : Cells (cx X) κ (upd H q (.tup (ks.map V.int))) S := s.cells.laid hq0
  have cl := c1.lay_ex (u := .dT [(ks.map Sum.inl, V.int j)]) hp1
  exact p0 (.ref p) (κ.push p) _ ((Grow.laid hq0).trans ((Grow.laid hp1).push hp1)) (cl.push (x := .dct [.non, tI ks] [.int j]) (c1.out hp1).2 (.inr ⟨[(ks.map Sum.inl, .int j)], upd_same, by rw [tI_eq]; rfl, .cons (Rep.int_iff.mpr rfl) .nil⟩)) ⟨p, push_at cl, rfl⟩
theorem de_newT2 {ks ks2 : List Int} {j j2 : Int} (hne : ks ≠ ks2) (hu : X.A.units + 1 < cLine) (hk : PE X k (tTupC ks)) (hv : PE X v (tC (.int j))) (hk2 : PE X k2 (tTupC ks2)) (hv2 : PE X v2 (tC (.int j2))) : DE X W (.Dict [some k, some k2] [v, v2] pos) (dNewT2 ks j ks2 j2) := pe_imp (pe_dispT2 (Nat.lt_of_succ_lt hu) hk hv hk2 hv2) fun σ H Q h => by
  obtain ⟨κ, ρ, S, s, p0⟩ := h
  intro p hp q hq
  intro r hr
  have n : p ≠ q := fun e => by rw [← e, upd_same] at hq; cases hq
  have hq0 : H q = none := by rw [upd_ne (fun e => n e.symm)] at hq; exact hq
  have n2 : q ≠ r := fun e => by rw [← e, upd_same] at hr; cases hr
  have n3 : p ≠ r := fun e => by rw [← e, upd_ne n, upd_same] at hr; cases hr
  have hr0 : upd H q (.tup (ks.map V.int)) r = none := by
    rw [upd_ne (fun e => n2 e.symm)] at hr ⊢
    rw [upd_ne (fun e => n3 e.symm)] at hr
    exact hr
  show upd (upd (upd H p (.dT [])) q (.tup (ks.map V.int))) r (.tup (ks2.map V.int)) p = some (.dT []) ∧ _
  refine ⟨by rw [upd_ne n3, upd_ne n]; exact upd_same, q, r, ks.map Sum.inl, ks2.map Sum.inl, fun e => hne (inl_inj e), rfl, by rw [kV_ints, upd_ne n2]; exact upd_same, rfl, by rw [kV_ints]; exact upd_same, ?_⟩
  rw [upd_comm2 n]
  have hp1 : upd (upd H q (.tup (ks.map V.int))) r (.tup (ks2.map V.int)) p = none := by rw [upd_ne n3, upd_ne n]; exact hp
  have c0 : Cells (cx X) κ (upd H q (.tup (ks.map V.int))) S := s.cells.laid hq0
  have c1 : Cells (cx X) κ (upd (upd H q (.tup (ks.map V.int))) r (.tup (ks2.map V.int))) S := c0.laid hr0
  have cl := c1.lay_ex (u := .dT [(ks.map Sum.inl, V.int j), (ks2.map Sum.inl, V.int j2)]) hp1
  exact p0 (.ref p) (κ.push p) _ ((Grow.laid hq0).trans ((Grow.laid hr0).trans ((Grow.laid hp1).push hp1))) (cl.push (x := .dct [.non, tI ks, tI ks2] [.int j, .int j2]) (c1.out hp1).2 (.inr ⟨[(ks.map Sum.inl, .int j), (ks2.map Sum.inl, .int j2)], upd_same, by rw [tI_eq, tI_eq]; rfl, .cons (Rep.int_iff.mpr rfl) (.cons (Rep.int_iff.mpr rfl) .nil)⟩)) ⟨p, push_at cl, rfl⟩
theorem de_newTv (i : Nat) {j : Int} (hu : X.A.units + 1 < cLine) (hk : PE X k (tVar i)) (hv : PE X v (tC (.int j))) : DE X W (.Dict [some k] [v] pos) (dNewTv i j) := pe_imp (pe_dispT (Nat.lt_of_succ_lt hu) hk hv) fun σ H Q h => by
  obtain ⟨κ, ρ, S, s, p0⟩ := h
  unfold dNewTv at p0
  split at p0
  · rename_i d q0
    split at p0
    · rename_i hkd
      obtain ⟨u, e1, r⟩ := s.env i _ q0
      obtain ⟨ks, b, rfl, eu, hb⟩ := isKeyT_rep hkd r
      intro p hp
      refine ⟨u, e1, ?_⟩
      have n : b ≠ p := fun e => by rw [e, hp] at hb; cases hb
      show upd H p (.dT []) p = some (.dT []) ∧ _
      refine ⟨upd_same, b, ks, eu, by rw [upd_ne n]; exact hb, ?_⟩
      rw [upd_upd]
      exact newT_post (kvs := [(ks, .int j)]) s.cells hp rfl (.cons (Rep.int_iff.mpr rfl) .nil) p0
    · exact p0.elim
  · exact p0.elim
end

/-! ### d[k], d.get(k, x), k a tuple -/
def getT (o k : Val) : M Val := fun S => match tOf o S, k with
  | some (ks, ds), .d d => if isKeyT d = true then (match lookT d ks ds with
    | some v => .ok (.d v) S
    | none => .bad) else .bad
  | _, _ => .bad
def getT2 (o k x : Val) : M Val := fun S => match tOf o S, k with
  | some (ks, ds), .d d => if isKeyT d = true then (match lookT d ks ds with
    | some v => .ok (.d v) S
    | none => .ok x S) else .bad
  | _, _ => .bad
def dGetT (fo fk : Env' → M Val) : Env' → M Val := fun ρ => M.bind (fo ρ) fun o => M.bind (fk ρ) fun k => getT o k
def isDcT (o : Val) : M Unit := fun S => if (tOf o S).isSome = true then .ok () S else .bad
def dGetT2 (fo fk fx : Env' → M Val) : Env' → M Val := fun ρ => M.bind (fo ρ) fun o => M.bind (isDcT o) fun _ => M.bind (fk ρ) fun k => M.bind (fx ρ) fun x => getT2 o k x
theorem getT_post {C : Ctx} {κ : Ks} {H : Hp} {S : Store} {o k : Val} {x y : V} {Q : VK} {E : XK} (c : Cells C κ H S) (rx : RepV C κ H o x) (ry : RepV C κ H k y) (p : PostG C (relV C) κ H (getT o k S) Q E) : ∃ a v, x = .ref a ∧ DGet H a y (some v) ∧ Q v H := by
  unfold getT at p
  split at p
  · rename_i ks ds d e
    split at p
    · rename_i hk
      obtain ⟨kk, b, rfl, rfl, hb⟩ := isKeyT_rep hk ry
      obtain ⟨a, kvs, ex, hr, rfl, rr⟩ := tOf_ok c rx e
      have lk := lookT_ok kk kvs ds rr
      split at p
      · rename_i v q
        rw [q] at lk
        cases hv : valV kvs kk with
        | none => rw [hv] at lk; exact lk.elim
        | some u =>
          rw [hv] at lk
          exact ⟨a, u, ex, .inr ⟨kvs, kk, b, hr, rfl, hb, hv.symm⟩, PostG.ok p c lk⟩
      · exact p.elim
    · exact p.elim
  · exact p.elim
theorem getT2_post {C : Ctx} {κ : Ks} {H : Hp} {S : Store} {o k w : Val} {x y z : V} {Q : VK} {E : XK} (c : Cells C κ H S) (rx : RepV C κ H o x) (ry : RepV C κ H k y) (rz : RepV C κ H w z) (p : PostG C (relV C) κ H (getT2 o k w S) Q E) : ∃ a, x = .ref a ∧ ∃ v, DGet H a y v ∧ Q (v.getD z) H := by
  unfold getT2 at p
  split at p
  · rename_i ks ds d e
    split at p
    · rename_i hk
      obtain ⟨kk, b, rfl, rfl, hb⟩ := isKeyT_rep hk ry
      obtain ⟨a, kvs, ex, hr, rfl, rr⟩ := tOf_ok c rx e
      have lk := lookT_ok kk kvs ds rr
      refine ⟨a, ex, valV kvs kk, .inr ⟨kvs, kk, b, hr, rfl, hb, rfl⟩, ?_⟩
      split at p
      · rename_i v q
        rw [q] at lk
        cases hv : valV kvs kk with
        | none => rw [hv] at lk; exact lk.elim
        | some u =>
          rw [hv] at lk
          exact PostG.ok p c lk
      · rename_i q
        rw [q] at lk
        cases hv : valV kvs kk with
        | none => exact PostG.ok p c rz
        | some u => rw [hv] at lk; exact lk.elim
    · exact p.elim
  · exact p.elim
theorem isDcT_post {C : Ctx} {α β : Type} {rel : Ks → Hp → α → β → Prop} {κ : Ks} {H : Hp} {S : Store} {o : Val} {x : V} {k : Unit → M α} {Q : β → Hp → Prop} {E : XK} (c : Cells C κ H S) (r : RepV C κ H o x) (p : PostG C rel κ H ((isDcT o S).bind k) Q E) :
    ∃ a, x = .ref a ∧ IsD H a ∧ PostG C rel κ H (k () S) Q E := by
  unfold isDcT at p
  cases e : tOf o S with
  | none => rw [e] at p; exact p.elim
  | some kd =>
    rw [e] at p
    obtain ⟨ks, ds⟩ := kd
    obtain ⟨a, kvs, ex, hr, _, _⟩ := tOf_ok c r e
    exact ⟨a, ex, .inr ⟨kvs, hr⟩, p⟩
/-- d[k] = v -/
def putT (o k v : Val) (ρ : Env') (S : Store) : SOut := match o, k, v with
  | .cell n, .d dk, .d dv => match S[n]? with
    | some (.dct (.non :: ks) ds) => if isKeyT dk = true ∧ ks.length < 1000000 then .next ρ (S.set n (.dct (.non :: putKsT dk ks) (putVsT dk dv ks ds))) else .bad
    | _ => .bad
  | _, _, _ => .bad
def sPutT (fo fk fv : Env' → M Val) : SD := fun ρ S => (fv ρ S).st ρ fun v ρ' S' => (fo ρ' S').st ρ' fun o ρ' S' => (fk ρ' S').st ρ' fun k ρ' S' => putT o k v ρ' S'
section
variable {X : Cx} {W : WX} {pos pos' apos cpos : Pos} {o e f value : Expr} {fo fk fx fv : Env' → M Val}
theorem de_dgetT (hu : X.A.units + 1 < cLine) (ho : DE X W o fo) (hk : DE X W e fk) (hs : NoSl e := by first | exact NoSl.rfl | (intro _ _; rfl)) : DE X W (.Subscript o e pos) (dGetT fo fk) := pe_imp (pe_dget hu ho hk hs) fun σ H Q h => by
  obtain ⟨κ, ρ, S, s, p⟩ := h
  obtain ⟨k1, r1, s1, sm, q⟩ := Ev.bind (rel1 := relV (cx X)) s p
  refine ⟨k1, r1, s1, sm, q.mono ?_⟩
  rintro x H1 ⟨κ1, S1, a, g1, sm1, rx, p1⟩
  obtain ⟨k2, r2, s2, sm2, q2⟩ := Ev.bind (rel1 := relV (cx X)) sm1 p1
  refine ⟨k2, r2, s2, sm2, q2.mono ?_⟩
  rintro y H2 ⟨κ2, S2, b, g2, sm2, ry, p2⟩
  exact getT_post sm2.cells (rx.grow g2) ry p2
theorem de_dgetT2 (hu : X.A.units + 1 < cLine) (ho : DE X W o fo) (hk : DE X W e fk) (hx : DE X W f fx)
    (hb : attributeBase o "get" X.env (eval o X.env) = eval o X.env := by rfl)
    (hf : ((backTo cpos (starEach [e, f] X.env)).all (fun x => !x.1) && (backToKw cpos (keywordEach [] X.env)).all (fun x => x.1.isSome)
      && decide (([e, f] : List Expr).length + ([] : List Keyword).length + (if ([] : List Keyword).isEmpty then 0 else 1) < 30)) = true := by rfl)
    (hl : (apos.endLine == cpos.line) = true := by rfl) (ht : backTo cpos (starEach [e, f] X.env) = [(false, eval e X.env), (false, eval f X.env)] := by rfl) :
    DE X W (.Call (.Attribute o "get" apos) [e, f] [] cpos) (dGetT2 fo fk fx) := pe_imp (pe_dget2 hu ho hk hx ⟨hb, hf, hl, ht⟩) fun σ H Q h => by
  obtain ⟨κ, ρ, S, s, p⟩ := h
  obtain ⟨k1, r1, s1, sm, q⟩ := Ev.bind (rel1 := relV (cx X)) s p
  refine ⟨k1, r1, s1, sm, q.mono ?_⟩
  rintro x H1 ⟨κ1, S1, a, g1, sm1, rx, p1⟩
  obtain ⟨ad, ex, isd, p2⟩ := isDcT_post sm1.cells rx p1
  refine ⟨ad, ex, isd, ?_⟩
  obtain ⟨k2, r2, s2, sm2, q2⟩ := Ev.bind (rel1 := relV (cx X)) sm1 p2
  refine ⟨k2, r2, s2, sm2, q2.mono ?_⟩
  rintro y H2 ⟨κ2, S2, b, g2, sm2, ry, p3⟩
  obtain ⟨k3, r3, s3, sm3, q3⟩ := Ev.bind (rel1 := relV (cx X)) sm2 p3
  refine ⟨k3, r3, s3, sm3, q3.mono ?_⟩
  rintro z H3 ⟨κ3, S3, w, g3, sm3, rz, p4⟩
  obtain ⟨a', ex', v, dg, qq⟩ := getT2_post sm3.cells (rx.grow (g2.trans g3)) (ry.grow g3) rz p4
  rw [ex] at ex'
  cases ex'
  exact ⟨v, dg, qq⟩
theorem ds_dputT (hu : X.A.units + 1 < cLine) (ho : DE X W o fo) (hk : DE X W e fk) (hv : DE X W value fv) (hs : swapsWith value (some (.Subscript o e pos')) pos.line X.env = pure false := by rfl) :
    DS X W (.Assign [.Subscript o e pos'] value pos) (sPutT fo fk fv) := ps_imp (ps_dput hu ho hk hv hs) fun D σ H h => by
  obtain ⟨κ, ρ, S, s, p⟩ := h
  obtain ⟨k1, r1, s1, sm, q⟩ := evS_bind (rel := relV (cx X)) s p
  refine ⟨k1, r1, s1, sm, q.mono ?_⟩
  rintro v H1 ⟨κ1, S1, av, g1, sm1, rv, p1⟩
  obtain ⟨k2, r2, s2, sm2, q2⟩ := evS_bind (rel := relV (cx X)) sm1 p1
  refine ⟨k2, r2, s2, sm2, q2.mono ?_⟩
  rintro x H2 ⟨κ2, S2, ao, g2, sm2, rx, p2⟩
  obtain ⟨k3, r3, s3, sm3, q3⟩ := evS_bind (rel := relV (cx X)) sm2 p2
  refine ⟨k3, r3, s3, sm3, q3.mono ?_⟩
  rintro y H3 ⟨κ3, S3, ak, g3, sm3, ry, p3⟩
  unfold putT at p3
  split at p3
  · rename_i n dk dv
    split at p3
    · rename_i ks ds q4
      split at p3
      · rename_i hc
        obtain ⟨h2, h3⟩ := hc
        obtain ⟨a, ha, ex⟩ := rx.grow g3
        obtain ⟨kk, b, rfl, rfl, hb⟩ := isKeyT_rep h2 ry
        have rv3 : Rep (cx X) κ3 H3 dv v := Rep.grow g3 (Rep.grow g2 rv)
        have hn : n < S3.length := (List.getElem?_eq_some_iff.mp q4).1
        rcases sm3.cells.ok n _ a q4 ha with ⟨kvs, z, k, rr⟩ | ⟨kvs, z, k, rr⟩
        · exact (noK k).elim
        · injection k with _ k
          have k : ks = kvs.map fun p => tD p.1 := k
          subst k
          have g4 : Grow κ3 H3 κ3 (L2.upd H3 a (.dT (putK kvs kk v))) := .cellM (List.mem_of_getElem? ha) z (fun _ z => nomatch z) (fun _ _ z => nomatch z)
          refine ⟨a, _, ex, DPut.t z hb (mil_lt (by rw [List.length_map] at h3; exact h3)), ?_⟩
          refine p3 σ κ3 _ g4 (sm3.setM g4.stp ha hn (.inr ⟨putK kvs kk v, upd_same, by rw [putKsT_ok kvs kk v]; rfl, ?_⟩))
          exact (putVsT_ok rv3 rr).grow g4
      · exact p3.elim
    · exact p3.elim
  · exact p3.elim
end
/-! ### for k in d, locked meanwhile -/
def dKeysT (i : Nat) : Env' → M Walk := fun ρ S => match ρ[i]? with
  | some (some (.cell n)) => match S[n]? with
    | some (.fzd (.non :: ks) _) => .ok ⟨ks, []⟩ S
    | _ => .bad
  | _ => .bad
noncomputable def sForT (i : Nat) (b : TB) (fb : SD) : SD := fun ρ S => match ρ[i]? with
  | some (some (.cell n)) => match S[n]? with
    | some (.dct (.non :: ks) ds) => thaw n (.non :: ks) ds (forN ⟨ks, []⟩ b fb ks ρ (S.set n (.fzd (.non :: ks) ds)))
    | _ => .bad
  | _ => .bad
theorem wd_keysT {C : Ctx} {κ : Ks} {H : Hp} {a : Addr} {o : Obj} {kvs : List (List Key × V)} (h : H a = some (.frz o (.dT kvs))) : WalkD C κ H (Itkt a o kvs) ⟨kvs.map (fun p => tD p.1), []⟩ where
  go := fun i κ2 H2 S2 hi g c lv => ⟨g.frzs _ _ _ h, by simpa using hi⟩
  yld := fun i κ2 H2 S2 x H3 d e g c lv y => by
    obtain ⟨eH, k, v, q, e1, e2, e3⟩ := y
    subst eH e2
    rw [List.getElem?_map, e1] at e
    cases e
    exact ⟨.refl _ _, c, Rep.tup_iff.mpr ⟨q, _, rfl, e3, RepL.of_keys k⟩⟩
  stop := fun κ2 H2 S2 g c lv => ⟨g.frzs _ _ _ h, by simp⟩
section
variable {X : Cx} {W : WX} {pos np : Pos} {tg e : Expr} {x : Str}
theorem di_keysT (i : Nat) (he : PE X e (tVar i)) : DI X W tg e (dKeysT i) := pi_imp (pi_keys he) fun σ H R h => by
  obtain ⟨κ, ρ, S, s, p⟩ := h
  unfold dKeysT at p
  split at p
  · rename_i n q
    split at p
    · rename_i ks ds q2
      obtain ⟨v, e1, a, ha, ev⟩ := s.env i _ q
      rcases s.cells.ok n _ a q2 ha with ⟨o, ⟨kvs, z, k, rr⟩ | ⟨kvs, z, k, rr⟩⟩
      · exact (noK k).elim
      · injection k with _ k
        have k : ks = kvs.map fun p => tD p.1 := k
        subst k
        exact ⟨v, e1, a, o, ev, .inr ⟨kvs, z, p _ κ H (.refl _ _) s.cells (wd_keysT z)⟩⟩
    · exact p.elim
  · exact p.elim
theorem ds_forT {body : List Stmt} {i : Nat} {b : TB} {fb : SD} (h : DS X W (.For tg e body [] pos) (sFor (dKeysT i) b fb)) : DS X W (.For tg e body [] pos) (sForT i b fb) :=
  ps_imp (ps_lock h) fun D σ H h1 => by
  obtain ⟨κ, ρ, S, s, p⟩ := h1
  unfold sForT at p
  split at p
  · rename_i n q
    split at p
    · rename_i ks ds q2
      obtain ⟨v, e1, a, ha, ev⟩ := s.env i _ q
      have hn : n < S.length := (List.getElem?_eq_some_iff.mp q2).1
      have m : a ∈ κ.cells := List.mem_of_getElem? ha
      rcases s.cells.ok n _ a q2 ha with ⟨kvs, z, k, rr⟩ | ⟨kvs, z, k, rr⟩
      · exact (noK k).elim
      · injection k with _ k
        have k : ks = kvs.map fun p => tD p.1 := k
        subst k
        refine ⟨a, .dT kvs, z, trivial, fun od => ?_⟩
        have gl : Grow κ H κ (L2.upd H a (.frz od (.dT kvs))) := .cellM m z (fun _ z => nomatch z) (fun _ _ z => nomatch z)
        have sl := s.setM (x := .fzd (.non :: kvs.map fun p => tD p.1) ds) gl.stp ha hn ⟨od, .inr ⟨kvs, upd_same, rfl, rr.grow gl⟩⟩
        refine ⟨κ, ρ, S.set n (.fzd (.non :: kvs.map fun p => tD p.1) ds), sl, ?_⟩
        have fi : dKeysT i ρ (S.set n (.fzd (.non :: kvs.map fun p => tD p.1) ds)) = .ok ⟨kvs.map fun p => tD p.1, []⟩ (S.set n (.fzd (.non :: kvs.map fun p => tD p.1) ds)) := by
          unfold dKeysT
          rw [q]
          show (match (S.set n (.fzd (.non :: kvs.map fun p => tD p.1) ds))[n]? with | some (.fzd (.non :: ks) _) => Out.ok (Walk.mk ks []) _ | _ => .bad) = _
          rw [List.getElem?_set_self hn]
        unfold sFor
        rw [fi]
        show PostS (cx X) κ _ (forN ⟨kvs.map fun p => tD p.1, []⟩ b fb (kvs.map fun p => tD p.1) ρ (S.set n (.fzd (.non :: kvs.map fun p => tD p.1) ds))) _ W
        generalize forN ⟨kvs.map fun p => tD p.1, []⟩ b fb (kvs.map fun p => tD p.1) ρ (S.set n (.fzd (.non :: kvs.map fun p => tD p.1) ds)) = out at p ⊢
        unfold thaw at p
        split at p
        · rename_i ρ' S'
          split at p
          · rename_i ks' ds' q5
            intro σ' κ' H' g' s'
            have frz := g'.frzs a od (.dT kvs) upd_same
            refine ⟨frz, ?_⟩
            have ha' := g'.get ha
            have hn' : n < S'.length := (List.getElem?_eq_some_iff.mp q5).1
            have st : Stp κ' H' κ' (L2.upd H' a (.dT kvs)) := by
              have m' : a ∈ κ'.cells := List.mem_of_getElem? ha'
              refine ⟨fun b o nb e => ?_, fun b o nb _ => nb, fun b xs e => ?_, fun b o w e k1 k2 => ?_⟩
              · rw [upd_ne (fun z => nb.1 (by rw [z]; exact m'))]; exact e
              · rw [upd_ne (fun z => by rw [z, frz] at e; cases e)]; exact e
              · rw [upd_ne (fun z => by rw [z, frz] at e; cases e; exact k2 _ rfl)]; exact e
            refine p σ' κ' (L2.upd H' a (.dT kvs)) ?_ (s'.setM st ha' hn' (.inr ⟨kvs, upd_same, rfl, ?_⟩))
            · have bne : ∀ b o, H b = some o → b ≠ a → L2.upd H a (.frz od (.dT kvs)) b = some o := fun b o e n => by rw [upd_ne n]; exact e
              refine ⟨g'.pre, fun b mb => ?_, g'.held, fun b o n e => ?_, fun b mb n => ?_, fun b o e => ?_, fun b xs e => ?_, fun b o w e => ?_⟩
              · rcases g'.more b mb with z1 | z1
                · exact .inl z1
                · by_cases hb : b = a
                  · rw [hb, upd_same] at z1; cases z1
                  · rw [upd_ne hb] at z1; exact .inr z1
              · have hb : b ≠ a := fun z => n (by rw [z]; exact m)
                rw [upd_ne hb]; exact g'.keep b o n (bne b o e hb)
              · have z1 := g'.new b mb n
                by_cases hb : b = a
                · rw [hb, upd_same] at z1; cases z1
                · rw [upd_ne hb] at z1; exact z1
              · by_cases hb : b = a
                · exact ⟨_, by rw [hb]; exact upd_same⟩
                · rw [upd_ne hb]; exact g'.there b o (bne b o e hb)
              · have hb : b ≠ a := fun z1 => by rw [z1, z] at e; cases e
                rw [upd_ne hb]; exact g'.tups b xs (bne b _ e hb)
              · have hb : b ≠ a := fun z1 => by rw [z1, z] at e; cases e
                rw [upd_ne hb]; exact g'.frzs b o w (bne b _ e hb)
            · exact ((rr.grow gl).grow g').stp st
          · exact p.elim
        · exact p.elim
    · exact p.elim
  · exact p.elim
end

section
variable {X : Cx} {W : WX} {tg e : Expr} {x : Str} {p pos : Pos}
theorem di_listT (i : Nat) (hc : X.calm = true) (hg : Gl X x) (hm : X.mg x = none) (he : PE X e (tVar i)) (hv : bootBuiltins x = some (.type "list")) (hn : x ≠ "__name__") (hdb : (x == ("__debug__" : Str)) = false)
    (hst : starEach [e] X.env = (false, eval e X.env) :: starEach [] X.env) : DI X W tg (.Call (.Name x p) [e] [] pos) (dKeysT i) := pi_imp (pi_listT hc he hg hm hv hn hdb hst) fun σ H R h => by
  obtain ⟨κ, ρ, S, s, p⟩ := h
  unfold dKeysT at p
  split at p
  · rename_i n q
    split at p
    · rename_i ks ds q2
      obtain ⟨v, e1, a, ha, ev⟩ := s.env i _ q
      rcases s.cells.ok n _ a q2 ha with ⟨o, ⟨kvs, z, k, rr⟩ | ⟨kvs, z, k, rr⟩⟩
      · exact (noK k).elim
      · injection k with _ k
        have k : ks = kvs.map fun p => tD p.1 := k
        subst k
        exact ⟨v, e1, a, o, kvs, ev, z, p _ κ H (.refl _ _) s.cells (wd_keysT z)⟩
    · exact p.elim
  · exact p.elim
end

theorem dkt {X : Cx} {W : WX} {tg : Expr} (i : Nat) {x : Str} {pos : Pos} (hN : X.N[i]? = some x := by rfl) (hv : Vis X.env.scope x := by first | exact Or.inl rfl | exact Or.inr (Or.inl rfl) | exact Or.inr (Or.inr rfl)) (hd : (x == ("__debug__" : Str)) = false := by decide)
    (hcd : (x == ("__classdict__" : Str)) = false := by decide) : DI X W tg (.Name x pos) (dKeysT i) := di_keysT i (pv i hN hv hd hcd)
theorem dlt {X : Cx} {W : WX} {tg : Expr} (i : Nat) {x : Str} {pos p pos2 : Pos} (hm : X.mg "list" = none) (hN : X.N[i]? = some x := by rfl) (hv : Vis X.env.scope x := by first | exact Or.inl rfl | exact Or.inr (Or.inl rfl) | exact Or.inr (Or.inr rfl)) (hd : (x == ("__debug__" : Str)) = false := by decide)
    (hcd : (x == ("__classdict__" : Str)) = false := by decide) (hc : X.calm = true := by rfl) (hg : Gl X "list" := by rfl) (hst : starEach [.Name x pos] X.env = (false, eval (.Name x pos) X.env) :: starEach [] X.env := by rfl) : DI X W tg (.Call (.Name "list" p) [.Name x pos] [] pos2) (dKeysT i) :=
  di_listT i hc hg hm (pv i hN hv hd hcd) (by decide +kernel) (by decide) (by decide) hst
end Dn

/-! Dn14: max of four numbers; a starred thing in a display. -/
namespace Dn
open PySem PySem.Spec PyProof.Rows L2
theorem args_max4 (a b c d : Value) : argsOk "max" ⟨[a, b, c, d], []⟩ := by unfold argsOk; kernel_rfl
section
variable {prog : Program} {w : World} {A : Around} {E : Value → Shared → Prop} {s : Shared}
theorem call_max_four {a b c d : Value} {Q : Value → Shared → Prop}
    (go : wpAny (model prog w) A.in1 (pyIter (.ref s.heap.objs.size)) (fun it s1 => ∃ I fp wr n P St bt, it = .ref I ∧ Walks prog w A.in1 I fp wr n P St ∧ St 0 s1.heap ∧ (∀ b ∈ fp, b < s1.heap.objs.size) ∧ 0 < n ∧ CmpOf prog w A.in1 .Gt P bt ∧
      ∀ v hp tk, P (argBest bt (n - 1)) v → (∀ b o, b ∉ wr → s1.heap.get? b = some o → hp.get? b = some o) → Q v { s1 with heap := hp, toks := tk }) E
      { s with heap := s.heap.push { cls := .type "tuple", data := .seq #[a, b, c, d] } }) :
    wpAny (model prog w) A (call (.builtin "max") [a, b, c, d]) Q E s := by
  have nm : (toString "max" ++ toString ".loop" : String) = "max.loop" := by decide
  refine call_function_tree F.kind_max F.plain_max F.entry_max (args_max4 _ _ _ _) ?_
  refine wpAny_bind (wpAny_of_eq (show Builtin.Builtins.bindParams "max" ["key", "default"] 0 ⟨[], []⟩ = pure [none, none] by rfl) ?_)
  show wpAny _ A.in1 (newTuple [a, b, c, d] >>= _) _ _ s
  refine wpAny_bind (wpAny_newObj_type (wpAny_bind (wpAny_mono go (fun it s1 h1 => ?_) fun _ _ e => e)))
  obtain ⟨I, fp, wr, n, P, St, bt, rfl, W, st, below, pos, cmp, fin⟩ := h1
  refine wpAny_bind (wpAny_newObj_type ?_)
  rw [nm]
  refine wpAny_pure ⟨plainId_quiet F.plain_max_loop _, codeAny_max_loop_first W bt cmp s1.heap.objs.size (fun m => Nat.lt_irrefl _ (below _ m)) pos (W.frame _ _ _ st fun b _ o e => Heap.get?_push_of_some _ e) (Heap.get?_push_size _ rfl) fun v hp tk hP hk => ?_⟩
  exact fin v hp tk hP fun b o nb e => hk b o nb (Nat.ne_of_lt (Heap.lt_size e)) (Heap.get?_push_of_some _ e)
theorem best4 {a b c d : Int} {t u x y : Tok} {v : Value} (h : (intItems #[(a, t), (b, u), (c, x), (d, y)])[argBest (fun i j => decide (numAt #[(a, t), (b, u), (c, x), (d, y)] i > numAt #[(a, t), (b, u), (c, x), (d, y)] j)) 3]? = some v) :
    ∃ tk, v = .int (max (max (max a b) c) d) tk := by
  by_cases h1 : b > a
  · by_cases h2 : c > b
    · by_cases h3 : d > c
      · simp [argBest, numAt, intItems, h1, h2, h3] at h
        exact ⟨y, by rw [← h]; congr 1; omega⟩
      · simp [argBest, numAt, intItems, h1, h2, h3] at h
        exact ⟨x, by rw [← h]; congr 1; omega⟩
    · by_cases h3 : d > b
      · simp [argBest, numAt, intItems, h1, h2, h3] at h
        exact ⟨y, by rw [← h]; congr 1; omega⟩
      · simp [argBest, numAt, intItems, h1, h2, h3] at h
        exact ⟨u, by rw [← h]; congr 1; omega⟩
  · by_cases h2 : c > a
    · by_cases h3 : d > c
      · simp [argBest, numAt, intItems, h1, h2, h3] at h
        exact ⟨y, by rw [← h]; congr 1; omega⟩
      · simp [argBest, numAt, intItems, h1, h2, h3] at h
        exact ⟨x, by rw [← h]; congr 1; omega⟩
    · by_cases h3 : d > a
      · simp [argBest, numAt, intItems, h1, h2, h3] at h
        exact ⟨y, by rw [← h]; congr 1; omega⟩
      · simp [argBest, numAt, intItems, h1, h2, h3] at h
        exact ⟨t, by rw [← h]; congr 1; omega⟩
theorem max_four {a b c d : Int} {t u x y : Tok} {Q : Value → Shared → Prop} (hh : A.handled = none)
    (go : ∀ hp tk k, (∀ e o, s.heap.get? e = some o → hp.get? e = some o) → Q (.int (max (max (max a b) c) d) k) { s with heap := hp, toks := tk }) :
    wpAny (model prog w) A (call (.builtin "max") [.int a t, .int b u, .int c x, .int d y]) Q E s := by
  have tup : (s.heap.push { cls := .type "tuple", data := .seq #[.int a t, .int b u, .int c x, .int d y] }).IsTuple s.heap.objs.size (intItems #[(a, t), (b, u), (c, x), (d, y)]) := ⟨_, Heap.get?_push_size _ rfl, rfl, 0, by simp [intItems]⟩
  refine call_max_four (wpAny_pyIter_tuple tup ?_)
  have sz : (s.heap.push { cls := .type "tuple", data := .seq #[.int a t, .int b u, .int c x, .int d y] }).objs.size = s.heap.objs.size + 1 := Heap.size_push ..
  refine ⟨_, [_, s.heap.objs.size], [_], _, _, _, _, rfl, Walks.tuple (A := A.in1) hh _ s.heap.objs.size (by rw [sz]; exact Nat.ne_of_lt (Nat.lt_succ_self _)) (intItems #[(a, t), (b, u), (c, x), (d, y)]),
    ⟨⟨_, Heap.get?_push_size _ rfl, rfl, rfl⟩, tup.push _⟩, fun e m => ?_, by simp [intItems], CmpOf.ints_gt (numAt #[(a, t), (b, u), (c, x), (d, y)]) (fun _ _ => intItems_at), fun v hp tk hP hk => ?_⟩
  · show e < ((s.heap.push _).push _).objs.size
    rw [Heap.size_push, sz]
    rcases List.mem_cons.mp m with z | m
    · rw [z, sz]; exact Nat.lt_succ_self _
    · rw [List.mem_singleton.mp m]; exact Nat.lt_succ_of_lt (Nat.lt_succ_self _)
  · have hP' : (intItems #[(a, t), (b, u), (c, x), (d, y)])[argBest (fun i j => decide (numAt #[(a, t), (b, u), (c, x), (d, y)] i > numAt #[(a, t), (b, u), (c, x), (d, y)] j)) 3]? = some v := by
      have z : (intItems #[(a, t), (b, u), (c, x), (d, y)]).size - 1 = 3 := by simp [intItems]
      rw [← z]; exact hP
    obtain ⟨k, rfl⟩ := best4 hP'
    refine go hp tk k fun e o q => hk e o (fun m => ?_) (Heap.get?_push_of_some _ (Heap.get?_push_of_some _ q))
    have lt := Heap.lt_size q
    rw [List.mem_singleton.mp m, sz] at lt
    exact Nat.lt_irrefl _ (Nat.lt_of_succ_lt lt)
end
def max4D : List D → Option D
  | [.int i, .int j, .int k, .int l] => some (.int (max (max (max i j) k) l))
  | _ => none
theorem c_max4 {X : Cx} (hc : X.calm = true) : CallR X (.builtin "max") (rDc (cx X) max4D) := by
  intro pins s σ H xs us Q I r h
  obtain ⟨κ, S, ds, z, c, hx, e, q⟩ := h
  unfold max4D at e
  split at e
  · rename_i i j k l
    cases e
    obtain ⟨u1, r1, e1, h1, u2, r2, e2, h2, u3, r3, e3, h3, u4, r4, e4, h4, h5⟩ := hx
    have h5 : r4 = [] := h5
    subst e1 e2 e3 e4 h5
    have q1 := RepR.int (show RepR (cx X) κ H (.int i) u1 from h1)
    have q2 := RepR.int (show RepR (cx X) κ H (.int j) u2 from h2)
    have q3 := RepR.int (show RepR (cx X) κ H (.int k) u3 from h3)
    have q4 := RepR.int (show RepR (cx X) κ H (.int l) u4 from h4)
    subst q1 q2 q3 q4
    cases r with
    | cons r1 r =>
      cases r with
      | cons r2 r =>
        cases r with
        | cons r3 r =>
          cases r with
          | cons r4 r =>
            cases r
            obtain ⟨t1, rfl⟩ := r1
            obtain ⟨t2, rfl⟩ := r2
            obtain ⟨t3, rfl⟩ := r3
            obtain ⟨t4, rfl⟩ := r4
            exact max_four (I.ok.hd hc) fun hp tk m kp => ⟨.int (max (max (max i j) k) l), H, I.kept kp, ⟨m, rfl⟩, want c q repInt⟩
  · cases e
/-! a starred thing in a display -/
def starV (v : Val) : M (List Val) := fun S => match rd v S with
  | some x => match itemsD x with
    | some xs => match x with
      | .str _ => .bad
      | _ => .ok (xs.map .d) S
    | none => .bad
  | none => .bad
def dStar (f : Env' → M Val) (g : Env' → M (List Val)) : Env' → M (List Val) := fun ρ => M.bind (f ρ) fun a => M.bind (starV a) fun xs => M.bind (g ρ) fun r => M.pure (xs ++ r)
theorem repVs_d {C : Ctx} {κ : Ks} {H : Hp} : ∀ {xs : List D} {vs : List V}, RepL C κ H xs vs → RepVs C κ H (xs.map .d) vs
  | [], _, h => h
  | x :: xs, _, ⟨v, r, e, h1, h2⟩ => ⟨v, r, e, h1, repVs_d h2⟩
theorem repVs_app {C : Ctx} {κ : Ks} {H : Hp} : ∀ {as bs : List Val} {us vs : List V}, RepVs C κ H as us → RepVs C κ H bs vs → RepVs C κ H (as ++ bs) (us ++ vs)
  | [], _, us, vs, h, k => by rw [show us = [] from h]; exact k
  | a :: as, _, _, vs, ⟨u, t, e, h1, h2⟩, k => by subst e; exact ⟨u, t ++ vs, rfl, h1, repVs_app h2 k⟩
section
variable {X : Cx} {W : WX} {e : Expr} {es : List Expr} {f : Env' → M Val} {g : Env' → M (List Val)} {p : Pos}
theorem da_star (ha : DE X W e f) (hr : DA X W es g) (hs : starEach (.Starred e p :: es) X.env = (true, eval e X.env) :: starEach es X.env := by rfl) : DA X W (.Starred e p :: es) (dStar f g) :=
  pa_imp (StX.pa_star ha hr hs) fun σ H Q h => by
  obtain ⟨κ, ρ, S, s, p⟩ := h
  obtain ⟨k1, r1, s1, sm, q⟩ := Ev.bind (rel1 := relV (cx X)) s p
  refine ⟨k1, r1, s1, sm, q.mono ?_⟩
  rintro u H1 ⟨κ1, S1, v, g1, sm1, ru, p1⟩
  have key : ∀ xs : List D, ∀ ys : List V, RepL (cx X) κ1 H1 xs ys → PostG (cx X) (relVs (cx X)) κ1 H1 (M.bind (fun S => .ok (xs.map Val.d) S) (fun xs => M.bind (g ρ) fun r => M.pure (xs ++ r)) S1) Q (fun c d H' => W c d σ H') →
      Ev (cx X) (relVs (cx X)) W g σ H1 fun zs H2 => Q (ys ++ zs) H2 := by
    intro xs ys rx p2
    have p2 : PostG (cx X) (relVs (cx X)) κ1 H1 (M.bind (g ρ) (fun r => M.pure (xs.map Val.d ++ r)) S1) Q (fun c d H' => W c d σ H') := p2
    obtain ⟨k2, r2, s2, sm2, q2⟩ := Ev.bind (rel1 := relVs (cx X)) sm1 p2
    refine ⟨k2, r2, s2, sm2, q2.mono ?_⟩
    rintro zs H2 ⟨κ2, S2, as, g2, sm2, rzs, p3⟩
    exact PostG.ok (a := xs.map Val.d ++ as) p3 sm2.cells (repVs_app (repVs_d (rx.grow g2)) rzs)
  have p1 : PostG (cx X) (relVs (cx X)) κ1 H1 ((starV v S1).bind fun xs => M.bind (g ρ) fun r => M.pure (xs ++ r)) Q (fun c d H' => W c d σ H') := p1
  unfold starV at p1
  split at p1
  · rename_i x ex
    split at p1
    · rename_i xs exs
      split at p1
      · exact False.elim p1
      · rename_i hns
        rcases seq_cases sm1.cells ru ex exs with ⟨a, ⟨e1, t1⟩, ⟨ys, l1, rx⟩, h⟩ | ⟨a, ⟨e1, t1⟩, ⟨ys, l1, rx⟩, h⟩ | ⟨z, ⟨e1, t1⟩, e2⟩
        · exact ⟨a, ys, e1, .inr l1, key xs ys rx p1⟩
        · exact ⟨a, ys, e1, .inl l1, key xs ys rx p1⟩
        · exact (hns z t1).elim
    · exact False.elim p1
  · exact False.elim p1
end
/-! ### x[::2] of a tuple -/
def evens {α : Type} : List α → List α
  | [] => []
  | [x] => [x]
  | x :: _ :: r => x :: evens r
theorem evens_get {α : Type} : ∀ (xs : List α) (i : Nat), (evens xs)[i]? = xs[2 * i]?
  | [], i => by simp [evens]
  | [x], 0 => rfl
  | [x], i + 1 => by show none = _; rw [List.getElem?_eq_none (by simp; omega)]
  | x :: _ :: r, 0 => rfl
  | x :: y :: r, i + 1 => by
    show (evens r)[i]? = _
    rw [evens_get r i, show 2 * (i + 1) = 2 * i + 1 + 1 by omega, List.getElem?_cons_succ, List.getElem?_cons_succ]
theorem evens_len {α : Type} : ∀ xs : List α, (evens xs).length = (xs.length + 1) / 2
  | [] => by simp [evens]
  | [x] => by simp [evens]
  | x :: y :: r => by
    show (evens r).length + 1 = (r.length + 1 + 1 + 1) / 2
    rw [evens_len r]; omega
theorem evens_map {α β : Type} (f : α → β) : ∀ xs : List α, evens (xs.map f) = (evens xs).map f
  | [] => rfl
  | [x] => rfl
  | x :: y :: r => by
    show f x :: evens (r.map f) = f x :: (evens r).map f
    rw [evens_map f r]
namespace HT2
section
variable {prog : Program} {w : World} {A : Around} {E : Value → Shared → Prop} {s : Shared}
theorem sliceApplied_two {sl : Addr} {vl vu vs : Value} {n : Nat} {Q : Int × Int × Nat → Shared → Prop} (hs : s.heap.IsSliceOf sl vl vu vs) (pl : IsPart vl none) (pu : IsPart vu none) (pv : IsPart vs (some 2))
    (h : Q (0, 2, (n + 1) / 2) s) : wpAny (model prog w) A (Builtin.Slice.sliceApplied (.ref sl) (pure (n : Int))) Q E s := by
  obtain ⟨os, hos, hcs, hds⟩ := id hs
  unfold Builtin.Slice.sliceApplied Builtin.Slice.sliceFields
  refine wpAny_bind (wpAny_bind (wpAny_field hos hds (x := vl) rfl (wpAny_bind (wpAny_field hos hds (x := vu) rfl (wpAny_bind (wpAny_field hos hds (x := vs) rfl (wpAny_pure ?_)))))))
  refine wpAny_bind (HT.slicePart_ pv ?_)
  show wpAny _ _ (if ((2 : Int) == 0) = true then _ else _) _ _ s
  rw [if_neg (by decide)]
  refine wpAny_bind (HT.slicePart_ pl (wpAny_bind (HT.slicePart_ pu (wpAny_bind (wpAny_pure ?_)))))
  show wpAny _ _ (pure ((0 : Int), (2 : Int), Builtin.Slice.slicePlaces 0 (n : Int) 2)) _ _ s
  have : Builtin.Slice.slicePlaces 0 (n : Int) 2 = (n + 1) / 2 := by
    unfold Builtin.Slice.slicePlaces
    rw [if_pos (by decide)]
    by_cases hn : n = 0
    · subst hn; rfl
    · rw [if_pos (by omega)]
      omega
  rw [this]
  exact wpAny_pure h
theorem pick_two (xs : Array Value) : ((List.range ((xs.size + 1) / 2)).filterMap fun (m : Nat) => xs[((0 : Int) + (m : Int) * 2).toNat]?).toArray = (evens xs.toList).toArray := by
  congr 1
  have e : (List.range ((xs.size + 1) / 2)).filterMap (fun (m : Nat) => xs[((0 : Int) + (m : Int) * 2).toNat]?) = (List.range ((xs.size + 1) / 2)).map (fun m => (evens xs.toList).getD m .none) := by
    rw [← List.filterMap_eq_map]
    apply HT.fm_congr
    intro m hm
    have hm := List.mem_range.mp hm
    rw [show ((0 : Int) + (m : Int) * 2).toNat = 2 * m by omega]
    show _ = some ((evens xs.toList).getD m .none)
    rw [List.getD_eq_getElem?_getD, evens_get, Array.getElem?_toList]
    have hlt : 2 * m < xs.size := by omega
    rw [Array.getElem?_eq_getElem hlt]; rfl
  rw [e]
  apply List.ext_getElem?
  intro i
  rw [List.getElem?_map]
  have hl : (evens xs.toList).length = (xs.size + 1) / 2 := by rw [evens_len]; simp
  by_cases h : i < (xs.size + 1) / 2
  · rw [List.getElem?_range h]
    have h2 : i < (evens xs.toList).length := by omega
    rw [List.getElem?_eq_getElem h2]
    show some ((evens xs.toList).getD i .none) = _
    rw [List.getD_eq_getElem?_getD, List.getElem?_eq_getElem h2]; rfl
  · rw [List.getElem?_eq_none (by simpa using h), List.getElem?_eq_none (by omega)]; rfl
theorem getItem_tuple_two {t sl : Addr} {items : Array Value} {vl vu vs : Value} {Q : Value → Shared → Prop} (ht : IsTup s.heap t items) (hs : s.heap.IsSliceOf sl vl vu vs) (pl : IsPart vl none) (pu : IsPart vu none) (pv : IsPart vs (some 2))
    (h : Q (.ref s.heap.objs.size) { s with heap := s.heap.push { cls := .type "tuple", data := .seq (evens items.toList).toArray } })
    (hsz : items.size ≤ sizeLine) : wpAny (model prog w) A (getItem (.ref t) (.ref sl)) Q E s := by
  have htake : sizeOk (.seq (evens items.toList).toArray) := by
    show (evens items.toList).toArray.size ≤ sizeLine
    rw [List.size_toArray, evens_len, Array.length_toList]
    omega
  obtain ⟨os, hos, hcs, hds⟩ := id hs
  have hTs : s.TypeIs (.ref sl) "slice" := ⟨os, hos, hcs⟩
  unfold getItem
  try with_reducible refine wpAny_holding ?_
  first | refine wpAny_bind (wpAny_pure ?_) | skip
  refine wpAny_bind (wpAny_sequenceKey ht.typeIs (by decide) ?_)
  refine wpAny_bind (wpAny_callSpecial?_slot (name := Str.ofString "__getitem__") ht.typeIs PyProof.Rows.slot_tuple_getitem
    (wpAny_call_entry PyProof.Rows.slot_tuple_getitem ht.typeIs entry_tuple_getitem ?_ (args_tuple_getitem _ _)))
  show wpAny _ _ (Builtin.Tuple.tupleItemsOf (.ref t) >>= _) _ _ s
  refine wpAny_bind (tupleItemsOf_ ht ?_)
  refine wpAny_bind (wpAny_typeOf hTs ?_)
  rw [if_pos (by decide)]
  refine wpAny_bind (sliceApplied_two hs pl pu pv ?_)
  have hno : ¬ (((0 : Int) == 0 && (2 : Int) == 1 && (items.size + 1) / 2 == items.size) = true) := by
    intro q
    rw [Bool.and_eq_true, Bool.and_eq_true] at q
    exact absurd q.1.2 (by decide)
  show wpAny _ _ (if (((0 : Int) == 0 && (2 : Int) == 1 && (items.size + 1) / 2 == items.size) = true) then _ else _) _ _ s
  rw [if_neg hno, pick_two]
  first
    | exact wpAny_bind (m := Builtin.Tuple.tupleExact _) (wpAny_newObj_type (wpAny_pure ⟨_, rfl, wpAny_pure h⟩) htake)
    | exact wpAny_bind (m := Builtin.Tuple.tupleExact _) (wpAny_newObj_type (wpAny_bind (wpAny_pure (wpAny_pure ⟨_, rfl, wpAny_pure h⟩))) htake)
    | exact wpAny_bind (wpAny_bind (m := Builtin.Tuple.tupleExact _) (wpAny_newObj_type (wpAny_pure (wpAny_pure ⟨_, rfl, wpAny_pure h⟩)) htake))
    | exact wpAny_bind (wpAny_bind (m := Builtin.Tuple.tupleExact _) (wpAny_newObj_type (wpAny_pure ⟨_, rfl, wpAny_pure h⟩) htake))
end
end HT2
def evD : D → Option D
  | .tup xs => some (.tup (evens xs))
  | _ => none
theorem evens_vals : ∀ {vs : List V} {us : List Value}, Vals vs us → Vals (evens vs) (evens us)
  | [], _, .nil => .nil
  | [x], _, .cons h .nil => .cons h .nil
  | x :: y :: r, _, .cons h (.cons _ t) => .cons h (evens_vals t)
theorem evens_rep {C : Ctx} {κ : Ks} {H : Hp} : ∀ {xs : List D} {vs : List V}, RepL C κ H xs vs → RepL C κ H (evens xs) (evens vs)
  | [], _, h => by rw [show _ = [] from h]; exact .nil
  | [x], _, ⟨v, r, e, h1, h2⟩ => by subst e; rw [show r = [] from h2]; exact .cons h1 .nil
  | x :: y :: t, _, ⟨v, r, e, h1, v2, r2, e2, _, h3⟩ => by subst e e2; exact .cons h1 (evens_rep h3)
theorem pe_ev {X : Cx} {e : Expr} {te : TE} {k : Nat} {p1 p3 pos : Pos} (he : PE X e te) : PE X (.Subscript e (.Slice none none (some (.Constant (.int 2) k p1)) p3) pos) (tRev (rD1 (cx X) evD) te) := by
  refine ⟨fun pins s σ H Q I h => ?_⟩
  refine Subscript_ (thn (he.run pins s σ H _ I h) fun v s1 ⟨x, H1, I1, r1, q1⟩ => ?_)
  have hst : PO X (some (.Constant (.int 2) k p1)) (tPart (tC (.int 2))) := po_some pe_int
  refine wpAny_Slice (thn (po_none.run pins s1 σ H1 (fun o H2 => o = none ∧ H2 = H1) I1 ⟨rfl, rfl⟩) fun vl s2 ⟨l, H2, I2, pl, el, e2⟩ => ?_)
  subst el e2
  refine thn (po_none.run pins s2 σ H2 (fun o H3 => o = none ∧ H3 = H2) I2 ⟨rfl, rfl⟩) fun vu s3 ⟨u, H3, I3, pu, eu, e3⟩ => ?_
  subst eu e3
  refine thn (hst.run pins s3 σ H3 (fun o H4 => o = some 2 ∧ H4 = H3) I3 ⟨2, rfl, rfl, rfl⟩) fun vs s4 ⟨o, H4, I4, ps, eo, e4⟩ => ?_
  subst eo e4
  have I5 : Inv X pins σ H4 { s4 with heap := s4.heap.push { cls := .type "slice", data := .fields #[vl, vu, vs] } } := I4.kept (t' := s4.toks) fun b ob q => Heap.get?_push_of_some _ q
  obtain ⟨κ, S, dx, z, c, hdx, er, q⟩ := q1
  unfold evD at er
  split at er
  · rename_i ds
    cases er
    obtain ⟨a, xs, ex, hx, rr⟩ := hdx.tup
    subst ex
    cases r1
    obtain ⟨its, r, ht, hz⟩ := I5.tuple (.of hx)
    show wpAny (model X.prog X.w) X.A (subscriptTail e (.Slice none none (some (.Constant (.int 2) k p1)) p3) (.ref a) (.ref s4.heap.objs.size)) (EP X pins σ Q) X.xe { s4 with heap := s4.heap.push { cls := .type "slice", data := .fields #[vl, vu, vs] } }
    refine tail_any (ops := [.ref a, .ref s4.heap.objs.size]) ht.typeIs (PyProof.Rows.slot_tuple_getitem.lookup) ?_ (by with_unfolding_all rfl)
    refine HT2.getItem_tuple_two ht (Heap.IsSliceOf.new _ vl vu vs) pl pu ps ?_ (by rw [List.size_toArray]; have := r.length; omega)
    refine ⟨.ref _, _, I5.laid (t' := s4.toks) (o := .tup (evens xs)) (fun b ob q => Heap.get?_push_of_some _ q) (Nat.le_refl _) ?_, rfl, wantT c q (evens_rep rr) (I5.hok.fresh (Nat.le_refl _))⟩
    exact ⟨by rw [evens_len]; omega, _, evens_vals r, IsTup.new _ _⟩
  · cases er
theorem de_ev {X : Cx} {W : WX} {e : Expr} {fe : Env' → M Val} {k : Nat} {p1 p3 pos : Pos} (he : DE X W e fe) : DE X W (.Subscript e (.Slice none none (some (.Constant (.int 2) k p1)) p3) pos) (dOp1 evD fe) := 
  pe_imp (pe_ev he) fun _ _ _ h => ev_op1 h
/-! ### {} as a thing in a display -/
theorem de_eDct {X : Cx} {W : WX} {pos : Pos} : DE X W (.Dict [] [] pos) (dC (.dct [] [])) := pe_imp pe_dnewK fun σ H Q h => by
  obtain ⟨κ, ρ, S, s, p⟩ := h
  intro a ha
  exact p _ κ _ (.laid ha) (s.cells.laid ha) (by
    show Rep (cx X) κ _ (.dct [] []) _
    unfold Rep
    exact ⟨a, rfl, s.cells.out ha, .inl ⟨[], upd_same, rfl, .nil⟩⟩)
/-! ### sorted(set(t)), len(set(t)), t a tuple of whole numbers -/
def insU (x : Int) : List Int → List Int
  | [] => [x]
  | y :: r => if x < y then x :: y :: r else if x = y then y :: r else y :: insU x r
def sdd (ns : List Int) : List Int := ns.foldr insU []
theorem mem_insU {x k : Int} : ∀ {l : List Int}, k ∈ insU x l ↔ k = x ∨ k ∈ l
  | [] => by simp [insU]
  | y :: r => by
    unfold insU
    split
    · simp
    · split
      · rename_i h1 h2
        subst h2
        simp
      · rw [List.mem_cons, mem_insU (l := r), List.mem_cons]
        constructor
        · rintro (h | h | h)
          · exact .inr (.inl h)
          · exact .inl h
          · exact .inr (.inr h)
        · rintro (h | h | h)
          · exact .inr (.inl h)
          · exact .inl h
          · exact .inr (.inr h)
theorem pw_insU {x : Int} : ∀ {l : List Int}, l.Pairwise (· < ·) → (insU x l).Pairwise (· < ·)
  | [], _ => by simp [insU]
  | y :: r, h => by
    obtain ⟨h1, h2⟩ := List.pairwise_cons.mp h
    unfold insU
    split
    · rename_i q
      exact List.pairwise_cons.mpr ⟨fun z m => by
        rcases List.mem_cons.mp m with e | e
        · rw [e]; exact q
        · exact Int.lt_trans q (h1 z e), h⟩
    · split
      · exact h
      · rename_i q1 q2
        refine List.pairwise_cons.mpr ⟨fun z m => ?_, pw_insU h2⟩
        rcases mem_insU.mp m with e | e
        · rw [e]; omega
        · exact h1 z e
theorem mem_sdd {k : Int} : ∀ {ns : List Int}, k ∈ sdd ns ↔ k ∈ ns
  | [] => by simp [sdd]
  | x :: r => by
    show k ∈ insU x (sdd r) ↔ _
    rw [mem_insU, mem_sdd (ns := r), List.mem_cons]
theorem pw_sdd : ∀ ns : List Int, (sdd ns).Pairwise (· < ·)
  | [] => List.Pairwise.nil
  | x :: r => pw_insU (pw_sdd r)
theorem pw_ext : ∀ {a b : List Int}, a.Pairwise (· < ·) → b.Pairwise (· < ·) → (∀ k, k ∈ a ↔ k ∈ b) → a = b
  | [], [], _, _, _ => rfl
  | [], y :: b, _, _, h => absurd ((h y).mpr List.mem_cons_self) (by simp)
  | x :: a, [], _, _, h => absurd ((h x).mp List.mem_cons_self) (by simp)
  | x :: a, y :: b, ha, hb, h => by
    obtain ⟨a1, a2⟩ := List.pairwise_cons.mp ha
    obtain ⟨b1, b2⟩ := List.pairwise_cons.mp hb
    have e : x = y := by
      rcases List.mem_cons.mp ((h x).mp List.mem_cons_self) with e | e
      · exact e
      · rcases List.mem_cons.mp ((h y).mpr List.mem_cons_self) with e2 | e2
        · exact e2.symm
        · have := b1 x e
          have := a1 y e2
          omega
    subst e
    rw [pw_ext a2 b2 fun k => ?_]
    constructor
    · intro m
      rcases List.mem_cons.mp ((h k).mp (List.mem_cons_of_mem _ m)) with e | e
      · have := a1 k m; omega
      · exact e
    · intro m
      rcases List.mem_cons.mp ((h k).mpr (List.mem_cons_of_mem _ m)) with e | e
      · have := b1 k m; omega
      · exact e
theorem pw_nd {a : List Int} (h : a.Pairwise (· < ·)) : a.Nodup := h.imp fun h => Int.ne_of_lt h
def tSetT (K : PySem.W.Frag) (ta : TE) (f : List Int → V → Hp → VK → Prop) : TE := fun σ H Q => ta σ H fun x H1 => ∃ (l : Addr) (ns : List Int), x = V.ref l ∧ SqT K H1 l (ns.map V.int) ∧ ns.length < 64 ∧ f ns x H1 Q
theorem pe_sortedSet {X : Cx} {a : Expr} {ta : TE} {p p2 q pos : Pos} (hg : Gl X "sorted") (hm : X.mg "sorted" = none) (hg2 : Gl X "set") (hm2 : X.mg "set" = none) (ha : PE X a ta) (hc : X.calm = true := by rfl)
    (na : starEach [a] X.env = (false, eval a X.env) :: starEach [] X.env := by rfl) : PE X (.Call (.Name "sorted" p) [.Call (.Name "set" p2) [a] [] q] [] pos) (tSetT X.K ta fun ns _ H1 Q => ∀ p, H1 p = none → Q (.ref p) (upd H1 p (.lst ((sdd ns).map V.int)))) := by
  refine ⟨fun pins s σ H Q I h => ?_⟩
  refine Call_ (ld_blt I hg hm PyProof.Rows.boot_sorted ?_)
  refine PyProof.Rows.callWith_builtin1 (PyProof.Rows.args_cons ?_ rfl) rfl rfl
  refine Call_ (ld_blt I hg2 hm2 PyProof.Rows.boot_set ?_)
  refine PyProof.Rows.callWith_type1 (PyProof.Rows.args_cons (thn (ha.run pins s σ H _ I h) fun v s1 ⟨x, H1, I1, r1, q1⟩ => PyProof.Rows.args_nil ?_) na) na rfl
  obtain ⟨l, ns, rfl, hq, hl, q1⟩ := q1
  cases r1
  obtain ⟨its, r, pl, hz⟩ := I1.tuple hq
  refine call_set_tupI ns (I1.ok.hd hc) (show s1.heap.IsTuple l its.toArray from pl) (ints_of_vals r) (by unfold scanBound; omega) fun h' tk c R hcn hk => ?_
  refine PyProof.Rows.args_nil ?_
  have I2 : Inv X pins σ H1 { s1 with heap := h', toks := tk } := I1.kept hk
  refine sorted_set R (I2.ok.hd hc) (by omega) fun s' p out c2 ns' k g o hp hg' hi hs hmm hl2 => ?_
  have hlen : (ns'.map V.int).length ≤ sizeLine := by rw [List.length_map, hl2, sizeLine_eq]; omega
  have hn : H1 p = none := I2.hok.fresh hp
  have J : Inv X pins σ (upd H1 p (.lst (ns'.map V.int))) { ({ s1 with heap := h', toks := tk } : Shared) with heap := s'.heap, gens := s'.gens, drawn := s'.drawn, toks := s'.toks } :=
    I2.call (ch := []) (Un.laid k hp hn) (I2.hok.laid k hp ⟨hlen, out.toList, c2, vals_of_ints hi, hg'⟩) (by rw [g]; exact I2.bare) (fun _ z => nomatch z)
  have e : s' = { ({ s1 with heap := h', toks := tk } : Shared) with heap := s'.heap, gens := s'.gens, drawn := s'.drawn, toks := s'.toks } := by
    cases s'
    cases s1
    cases o
    rfl
  rw [e]
  have en : ns' = sdd ns := pw_ext hs (pw_sdd ns) fun k => by rw [hmm, decide_eq_true_eq, mem_sdd]
  subst en
  exact ⟨.ref p, _, J, rfl, q1 p hn⟩
theorem pe_lenSetT {X : Cx} {a : Expr} {ta : TE} {p p2 q pos : Pos} (hg : Gl X "len") (hm : X.mg "len" = none) (hg2 : Gl X "set") (hm2 : X.mg "set" = none) (ha : PE X a ta) (hc : X.calm = true := by rfl)
    (na : starEach [a] X.env = (false, eval a X.env) :: starEach [] X.env := by rfl) : PE X (.Call (.Name "len" p) [.Call (.Name "set" p2) [a] [] q] [] pos) (tSetT X.K ta fun ns _ H1 Q => Q (.int (sdd ns).length) H1) := by
  refine ⟨fun pins s σ H Q I h => ?_⟩
  refine Call_ (ld_blt I hg hm boot_len ?_)
  refine PyProof.Rows.callWith_builtin1 (PyProof.Rows.args_cons ?_ rfl) rfl rfl
  refine Call_ (ld_blt I hg2 hm2 PyProof.Rows.boot_set ?_)
  refine PyProof.Rows.callWith_type1 (PyProof.Rows.args_cons (thn (ha.run pins s σ H _ I h) fun v s1 ⟨x, H1, I1, r1, q1⟩ => PyProof.Rows.args_nil ?_) na) na rfl
  obtain ⟨l, ns, rfl, hq, hl, q1⟩ := q1
  cases r1
  obtain ⟨its, r, pl, hz⟩ := I1.tuple hq
  refine call_set_tupI ns (I1.ok.hd hc) (show s1.heap.IsTuple l its.toArray from pl) (ints_of_vals r) (by unfold scanBound; omega) fun h' tk c R hcn hk => ?_
  refine PyProof.Rows.args_nil ?_
  have I2 : Inv X pins σ H1 { s1 with heap := h', toks := tk } := I1.kept hk
  obtain ⟨o, es, ep, t, ho, hex, hd, g, nd, hmm, hb, hf, hn, hr, hl2⟩ := R
  have en : es.size = (sdd ns).length := by
    have pm : (es.toList.map keyOf).Perm (sdd ns) := (List.perm_ext_iff_of_nodup nd (pw_nd (pw_sdd ns))).mpr fun k => by rw [← hmm, decide_eq_true_eq, mem_sdd]
    have := pm.length_eq
    simpa using this
  exact call_len_set ho hex hd hf (by omega) ⟨.int (sdd ns).length, H1, I2.tok _, ⟨_, by rw [en]⟩, q1⟩
/-- ints of a tuple -/
def setN (v : Val) : M (List Int) := fun S => match v with
  | .d (.tup xs) => match intsD xs with
    | some ns => if ns.length < 64 then .ok ns S else .bad
    | none => .bad
  | _ => .bad
def nSSet (f : Env' → M Val) : Env' → M (List D) := fun ρ => M.bind (f ρ) fun v => M.bind (setN v) fun ns => M.pure ((sdd ns).map .int)
def dLSet (f : Env' → M Val) : Env' → M Val := fun ρ => M.bind (f ρ) fun v => M.bind (setN v) fun ns => M.pure (.d (.int (sdd ns).length))
theorem setN_ok {v : Val} {S S' : Store} {ns : List Int} (h : setN v S = .ok ns S') : S' = S ∧ v = .d (.tup (ns.map .int)) ∧ ns.length < 64 := by
  unfold setN at h
  split at h
  · split at h
    · split at h
      · rename_i e hz
        cases h
        rw [← intsD_eq e]
        exact ⟨rfl, rfl, hz⟩
      · cases h
    · cases h
  · cases h
section
variable {X : Cx} {W : WX} {a : Expr} {f : Env' → M Val} {p p2 q pos : Pos}
theorem dn_sset (hg : Gl X "sorted") (hm : X.mg "sorted" = none) (hg2 : Gl X "set") (hm2 : X.mg "set" = none) (ha : DE X W a f) (hc : X.calm = true := by rfl)
    (na : starEach [a] X.env = (false, eval a X.env) :: starEach [] X.env := by rfl) : DN X W (.Call (.Name "sorted" p) [.Call (.Name "set" p2) [a] [] q] [] pos) (nSSet f) := pe_imp (pe_sortedSet hg hm hg2 hm2 ha hc na) fun σ H Q h => by
  obtain ⟨κ, ρ, S, s, p⟩ := h
  obtain ⟨k1, r1, s1, sm, q⟩ := EvN.bind (rel1 := relV (cx X)) s p
  refine ⟨k1, r1, s1, sm, q.mono ?_⟩
  rintro x H1 ⟨κ1, S1, v, g1, sm1, rx, p1⟩
  have p2 : PostN (cx X) κ1 H1 ((setN v S1).bind fun ns => M.pure ((sdd ns).map D.int)) Q (fun c d H' => W c d σ H') := p1
  cases e : setN v S1 with
  | ok ns S2 =>
    rw [e] at p2
    obtain ⟨rfl, rfl, hz⟩ := setN_ok e
    obtain ⟨l, vs, e1, e2, e3⟩ := Rep.tup_iff.mp (show Rep (cx X) κ1 H1 (.tup (ns.map .int)) x from rx)
    have ev : vs = ns.map V.int := RepL.ints ns e3
    subst ev
    exact ⟨l, ns, e1, .of e2, hz, fun p hp => postN_laid (.refl _ _) sm1.cells (RepL.of_ints _) hp p2⟩
  | exc _ _ => rw [e] at p2; unfold setN at e; split at e <;> (try split at e) <;> (try split at e) <;> cases e
  | bad => rw [e] at p2; exact False.elim p2
theorem de_lset (hg : Gl X "len") (hm : X.mg "len" = none) (hg2 : Gl X "set") (hm2 : X.mg "set" = none) (ha : DE X W a f) (hc : X.calm = true := by rfl)
    (na : starEach [a] X.env = (false, eval a X.env) :: starEach [] X.env := by rfl) : DE X W (.Call (.Name "len" p) [.Call (.Name "set" p2) [a] [] q] [] pos) (dLSet f) := pe_imp (pe_lenSetT hg hm hg2 hm2 ha hc na) fun σ H Q h => by
  obtain ⟨κ, ρ, S, s, p⟩ := h
  obtain ⟨k1, r1, s1, sm, q⟩ := Ev.bind (rel1 := relV (cx X)) s p
  refine ⟨k1, r1, s1, sm, q.mono ?_⟩
  rintro x H1 ⟨κ1, S1, v, g1, sm1, rx, p1⟩
  have p2 : PostG (cx X) (relV (cx X)) κ1 H1 ((setN v S1).bind fun ns => M.pure (.d (.int (sdd ns).length))) Q (fun c d H' => W c d σ H') := p1
  cases e : setN v S1 with
  | ok ns S2 =>
    rw [e] at p2
    obtain ⟨rfl, rfl, hz⟩ := setN_ok e
    obtain ⟨l, vs, e1, e2, e3⟩ := Rep.tup_iff.mp (show Rep (cx X) κ1 H1 (.tup (ns.map .int)) x from rx)
    have ev : vs = ns.map V.int := RepL.ints ns e3
    subst ev
    exact ⟨l, ns, e1, .of e2, hz, PostG.ok (a := Val.d (.int (sdd ns).length)) p2 sm1.cells (show Rep (cx X) κ1 H1 (.int (sdd ns).length) (.int (sdd ns).length) from Rep.int_iff.mpr rfl)⟩
  | exc _ _ => rw [e] at p2; unfold setN at e; split at e <;> (try split at e) <;> (try split at e) <;> cases e
  | bad => rw [e] at p2; exact False.elim p2
end
/-! ### len(dict(pairs)), the keys truths -/
def bN (b : Bool) : Int := if b = true then 1 else 0
def dcount (bs : List Bool) : Nat := (sdd (bs.map bN)).length
theorem stored_mem {K : Type} [DecidableEq K] {k : K} {kvs : List (K × Value)} {a : K} {v : Value} : k ∈ (stored kvs a v).map (·.1) ↔ k = a ∨ k ∈ kvs.map (·.1) := by
  unfold stored
  split
  · rename_i h
    obtain ⟨x, hx, e⟩ := List.any_eq_true.mp h
    have e : x.1 = a := of_decide_eq_true e
    have em : (kvs.map fun kv => if kv.1 = a then (kv.1, v) else kv).map (·.1) = kvs.map (·.1) := by
      rw [List.map_map]
      apply List.map_congr_left
      intro y _
      show (if y.1 = a then (y.1, v) else y).1 = y.1
      split <;> rfl
    rw [em]
    exact ⟨.inr, fun h => h.elim (fun z => by rw [z, ← e]; exact List.mem_map.mpr ⟨x, hx, rfl⟩) id⟩
  · rw [List.map_append, List.mem_append]
    simp
    exact Or.comm
theorem merged_mem {K : Type} [DecidableEq K] {k : K} : ∀ {more kvs : List (K × Value)}, k ∈ (merged kvs more).map (·.1) ↔ k ∈ kvs.map (·.1) ∨ k ∈ more.map (·.1)
  | [], kvs => by show k ∈ kvs.map (·.1) ↔ _; simp
  | (a, v) :: more, kvs => by
    show k ∈ (merged (stored kvs a v) more).map (·.1) ↔ _
    rw [merged_mem (more := more), stored_mem, List.map_cons, List.mem_cons]
    constructor
    · rintro ((h | h) | h)
      · exact .inr (.inl h)
      · exact .inl h
      · exact .inr (.inr h)
    · rintro (h | h | h)
      · exact .inl (.inr h)
      · exact .inl (.inl h)
      · exact .inr h
def tLenDict (K : PySem.W.Frag) (ta : TE) : TE := fun σ H Q => ta σ H fun x H1 => ∃ (l : Addr) (ps : List Addr) (kvs : List (Bool × V)), x = V.ref l ∧ SqL K H1 l (ps.map V.ref) ∧ Paired (fun p kv => SqT K H1 p [V.bl kv.1, kv.2]) ps kvs ∧ kvs.length ≤ 1000 ∧ Q (.int (dcount (kvs.map (·.1)))) H1
theorem bpairs_of {X : Cx} {pins : List (Addr × Obj)} {σ : L2.St} {H : Hp} {s : Shared} (I : Inv X pins σ H s) : ∀ {ps : List Addr} {kvs : List (Bool × V)}, Paired (fun p kv => SqT X.K H p [V.bl kv.1, kv.2]) ps kvs →
    ∃ prs : List (Bool × Value), prs.map (·.1) = kvs.map (·.1) ∧ prs.length = ps.length ∧ ∀ (j : Nat) (q : Bool × Value), prs[j]? = some q → ∃ b : Addr, ps[j]? = some b ∧ IsTup s.heap b #[.bool q.1, q.2]
  | _, _, .nil => ⟨[], rfl, rfl, fun j q e => by simp at e⟩
  | _, _, .cons (a := p) (b := kv) h t => by
    obtain ⟨prs, r, hl, hp⟩ := bpairs_of I t
    obtain ⟨its, rv, ht, _⟩ := I.tuple h
    obtain ⟨u, y, ei, ru, ry⟩ := vals2 rv
    subst ei
    have eu : u = .bool kv.1 := ru
    subst eu
    refine ⟨(kv.1, y) :: prs, by rw [List.map_cons, List.map_cons, r], by rw [List.length_cons, List.length_cons, hl], fun j q e => ?_⟩
    cases j with
    | zero =>
      have e' : (kv.1, y) = q := Option.some.inj e
      subst e'
      exact ⟨p, rfl, ht⟩
    | succ j =>
      obtain ⟨b, e1, e2⟩ := hp j q (by simpa using e)
      exact ⟨b, by simpa using e1, e2⟩
theorem pe_lenDict {X : Cx} {a : Expr} {ta : TE} {p p2 q pos : Pos} (hg : Gl X "len") (hm : X.mg "len" = none) (hg2 : Gl X "dict") (hm2 : X.mg "dict" = none) (ha : PE X a ta) (hc : X.calm = true := by rfl)
    (na : starEach [a] X.env = (false, eval a X.env) :: starEach [] X.env := by rfl) : PE X (.Call (.Name "len" p) [.Call (.Name "dict" p2) [a] [] q] [] pos) (tLenDict X.K ta) := by
  refine ⟨fun pins s σ H Q I h => ?_⟩
  refine Call_ (ld_blt I hg hm boot_len ?_)
  refine PyProof.Rows.callWith_builtin1 (PyProof.Rows.args_cons ?_ rfl) rfl rfl
  refine Call_ (ld_blt I hg2 hm2 (by decide +kernel : bootBuiltins "dict" = some (.type "dict")) ?_)
  refine PyProof.Rows.callWith_type1 (PyProof.Rows.args_cons (thn (ha.run pins s σ H _ I h) fun v s1 ⟨x, H1, I1, r1, q1⟩ => PyProof.Rows.args_nil ?_) na) na rfl
  obtain ⟨l, ps, kvs, rfl, hq, hp, hz, q1⟩ := q1
  cases r1
  obtain ⟨its, rv, pl, hz2⟩ := I1.list hq
  have ei := refs_at rv
  subst ei
  obtain ⟨prs, rk, hl, hpr⟩ := bpairs_of I1 hp
  obtain ⟨o, n, ho, hcl, hd, hdat⟩ := pl
  let Ts : Nat → Addr := fun j => ps.getD j 0
  let pv : List (Value × Value) := prs.map fun q => (.bool q.1, q.2)
  have okP : PlainSeq "list" s1.heap l (ps.map Value.ref).toArray ∧ PairItems s1.heap (ps.map Value.ref).toArray Ts pv := by
    refine ⟨⟨o, n, ho, hcl, hd, hdat⟩, by simp [pv, hl], fun j k v e => ?_⟩
    rw [List.getElem?_map] at e
    obtain ⟨q2, e1, e2⟩ := Option.map_eq_some_iff.mp e
    cases e2
    obtain ⟨b, e3, e4⟩ := hpr j q2 e1
    have eb : Ts j = b := by show ps.getD j 0 = b; rw [List.getD_eq_getElem?_getD, e3]; rfl
    refine ⟨by simp [e3, eb], .inl ?_⟩
    rw [eb]
    exact e4
  have have' : PairsHave (leafKind X.prog X.w) pv.length (PairRel pv) (prs.map fun q => (Leaf.num (bN q.1), q.2)) := by
    refine ⟨by simp [pv], fun i key v e => ?_⟩
    have e : pv[i]? = some (key, v) := e
    rw [List.getElem?_map] at e
    obtain ⟨q2, e1, e2⟩ := Option.map_eq_some_iff.mp e
    cases e2
    refine ⟨.num (bN q2.1), by rw [List.getElem?_map, e1]; rfl, ?_⟩
    show Leaf.isOf (.num (bN q2.1)) (.bool q2.1) = true
    unfold Leaf.isOf bN
    exact decide_eq_true rfl
  have hlen : pv.length = kvs.length := by
    have := congrArg List.length rk
    simp at this
    simp [pv, this]
  refine PySem.call_dict_pairs (PairArg.list l (ps.map Value.ref).toArray Ts pv) (I1.ok.hd hc) okP have' (by rw [hlen, sizeLine_eq]; omega) fun h' tk hd' k => ?_
  refine PyProof.Rows.args_nil ?_
  have I2 : Inv X pins σ H1 { s1 with heap := h', toks := tk } := I1.kept fun b o e => k b o (by simp) e
  have en : (merged [] (prs.map fun q => (Leaf.num (bN q.1), q.2))).length = dcount (kvs.map (·.1)) := by
    obtain ⟨_, _, _, _, _, _, _, _, nd⟩ := id hd'
    have nd2 : ((sdd ((kvs.map (·.1)).map bN)).map Leaf.num).Nodup := (pw_nd (pw_sdd _)).map Leaf.num (by
      intro a b h e
      apply h
      injection e)
    have pm := (List.perm_ext_iff_of_nodup nd nd2).mpr fun k => by
      rw [merged_mem]
      simp only [List.map_nil, List.not_mem_nil, false_or]
      rw [List.map_map, List.mem_map, List.mem_map]
      constructor
      · rintro ⟨q2, h1, rfl⟩
        refine ⟨bN q2.1, mem_sdd.mpr (List.mem_map.mpr ⟨q2.1, ?_, rfl⟩), rfl⟩
        rw [← rk]
        exact List.mem_map.mpr ⟨q2, h1, rfl⟩
      · rintro ⟨x, h1, rfl⟩
        obtain ⟨b, h2, rfl⟩ := List.mem_map.mp (mem_sdd.mp h1)
        rw [← rk] at h2
        obtain ⟨q2, h3, rfl⟩ := List.mem_map.mp h2
        exact ⟨q2, h3, rfl⟩
    have := pm.length_eq
    simpa [dcount] using this
  have big : (s1.heap.objs.size == sysModules) = false := beq_eq_false_iff_ne.mpr (Nat.ne_of_gt I1.big)
  have sm : dcount (kvs.map (·.1)) ≤ 1000 := by
    rw [← en]
    refine Nat.le_trans (merged_length _ _) ?_
    simp at hlen ⊢
    simp [pv] at hlen
    omega
  exact call_len_dict big hd' (by rw [en]; omega) ⟨.int (dcount (kvs.map (·.1))), H1, I2.tok _, ⟨_, by rw [en]⟩, q1⟩
/-- the keys of pairs, truths -/
def bpL : List D → Option (List Bool)
  | [] => some []
  | .tup [.bl b, _] :: r => (bpL r).map (b :: ·)
  | _ => none
def bpairs (v : Val) : M (List Bool) := fun S => match v with
  | .d (.lst xs) => match bpL xs with
    | some bs => if bs.length ≤ 1000 then .ok bs S else .bad
    | none => .bad
  | _ => .bad
def dLDict (f : Env' → M Val) : Env' → M Val := fun ρ => M.bind (f ρ) fun v => M.bind (bpairs v) fun bs => M.pure (.d (.int (dcount bs)))
theorem bpairs_ok {v : Val} {S S' : Store} {bs : List Bool} (h : bpairs v S = .ok bs S') : S' = S ∧ ∃ xs, v = .d (.lst xs) ∧ bpL xs = some bs ∧ bs.length ≤ 1000 := by
  unfold bpairs at h
  split at h
  · split at h
    · split at h
      · rename_i e hz
        cases h
        exact ⟨rfl, _, rfl, e, hz⟩
      · cases h
    · cases h
  · cases h
theorem bp_rep {C : Ctx} {κ : Ks} {H : Hp} : ∀ {xs : List D} {vs : List V} {bs : List Bool}, bpL xs = some bs → RepL C κ H xs vs → ∃ (ps : List Addr) (kvs : List (Bool × V)), vs = ps.map V.ref ∧ Paired (fun p kv => SqT C.K H p [V.bl kv.1, kv.2]) ps kvs ∧ kvs.map (·.1) = bs
  | [], vs, bs, e, h => by
    cases e
    rw [show vs = [] from h]
    exact ⟨[], [], rfl, .nil, rfl⟩
  | x :: r, vs, bs, e, ⟨v, t, q, h1, h2⟩ => by
    subst q
    unfold bpL at e
    split at e
    · rename_i q1
      cases q1
    · rename_i b y r' q1
      cases q1
      obtain ⟨bs', e1, e2⟩ := Option.map_eq_some_iff.mp e
      subst e2
      obtain ⟨ps, kvs, a1, a2, a3⟩ := bp_rep e1 h2
      subst a1
      obtain ⟨p, us, b1, b2, u, t2, b3, b4, u2, t3, b5, b6, b7⟩ := Rep.tup_iff.mp h1
      subst b1
      subst b3
      subst b5
      have e3 : t3 = [] := b7
      subst e3
      have eu : u = .bl b := by unfold Rep at b4; exact b4
      subst eu
      exact ⟨p :: ps, (b, u2) :: kvs, rfl, .cons (.of b2) a2, by rw [List.map_cons, a3]⟩
    · cases e
section
variable {X : Cx} {W : WX} {a : Expr} {f : Env' → M Val} {p p2 q pos : Pos}
theorem de_ldict (hg : Gl X "len") (hm : X.mg "len" = none) (hg2 : Gl X "dict") (hm2 : X.mg "dict" = none) (ha : DE X W a f) (hc : X.calm = true := by rfl)
    (na : starEach [a] X.env = (false, eval a X.env) :: starEach [] X.env := by rfl) : DE X W (.Call (.Name "len" p) [.Call (.Name "dict" p2) [a] [] q] [] pos) (dLDict f) := pe_imp (pe_lenDict hg hm hg2 hm2 ha hc na) fun σ H Q h => by
  obtain ⟨κ, ρ, S, s, p⟩ := h
  obtain ⟨k1, r1, s1, sm, q⟩ := Ev.bind (rel1 := relV (cx X)) s p
  refine ⟨k1, r1, s1, sm, q.mono ?_⟩
  rintro x H1 ⟨κ1, S1, v, g1, sm1, rx, p1⟩
  have p2 : PostG (cx X) (relV (cx X)) κ1 H1 ((bpairs v S1).bind fun bs => M.pure (.d (.int (dcount bs)))) Q (fun c d H' => W c d σ H') := p1
  cases e : bpairs v S1 with
  | ok bs S2 =>
    rw [e] at p2
    obtain ⟨rfl, xs, rfl, e1, hz⟩ := bpairs_ok e
    obtain ⟨l, vs, a1, a2, _, a3⟩ := Rep.lst_iff.mp (show Rep (cx X) κ1 H1 (.lst xs) x from rx)
    obtain ⟨ps, kvs, b1, b2, b3⟩ := bp_rep e1 a3
    subst b1
    refine ⟨l, ps, kvs, a1, .inl (.inl a2), b2, by rw [← b3] at hz; simpa using hz, ?_⟩
    rw [b3]
    exact PostG.ok (a := Val.d (.int (dcount bs))) p2 sm1.cells (show Rep (cx X) κ1 H1 (.int (dcount bs)) (.int (dcount bs)) from Rep.int_iff.mpr rfl)
  | exc _ _ => rw [e] at p2; unfold bpairs at e; split at e <;> (try split at e) <;> (try split at e) <;> cases e
  | bad => rw [e] at p2; exact False.elim p2
end
/-! ### a + b, a * k as new lists -/
def rN2 (C : Ctx) (g : D → D → Option (List D)) : R2 := fun x y H Q => ∃ κ S dx dy zs, Cells C κ H S ∧ RepR C κ H dx x ∧ RepR C κ H dy y ∧ g dx dy = some zs ∧ ∀ p vs, H p = none → RepL C κ H zs vs → Q (.ref p) (upd H p (.lst vs))
def addN : D → D → Option (List D)
  | .lst a, .lst b => if a.length + b.length ≤ 1000000 then some (a ++ b) else none
  | _, _ => none
def mulN : D → D → Option (List D)
  | .lst xs, .int k => if 0 ≤ k ∧ k ≤ 1000 ∧ xs.length ≤ 1000 then some (List.replicate k.toNat xs).flatten else none
  | _, _ => none
def opN2 (g : D → D → Option (List D)) (a b : Val) : M (List D) := fun S => match rd a S, rd b S with
  | some x, some y => match g x y with
    | some z => .ok z S
    | none => .bad
  | _, _ => .bad
def nOp2 (g : D → D → Option (List D)) (fa fb : Env' → M Val) : Env' → M (List D) := fun ρ => M.bind (fa ρ) fun a => M.bind (fb ρ) fun b => opN2 g a b
section
variable {X : Cx} {W : WX} {pos : Pos} {a b : Expr} {fa fb : Env' → M Val} {g : D → D → Option (List D)}
theorem opN2_post {C : Ctx} {κ : Ks} {H : Hp} {S : Store} {a b : Val} {x y : V} {Q : VK} {E : XK} (c : Cells C κ H S) (ra : RepV C κ H a x) (rb : RepV C κ H b y) (h : PostN C κ H (opN2 g a b S) Q E) : rN2 C g x y H Q := by
  unfold opN2 at h
  split at h
  · rename_i dx dy e1 e2
    split at h
    · rename_i zs e3
      exact ⟨κ, S, dx, dy, zs, c, rd_rep c ra e1, rd_rep c rb e2, e3, fun p vs hp r => postN_laid (.refl _ _) c r hp h⟩
    · exact h.elim
  · exact h.elim
theorem ev_opN {C : Ctx} {σ : L2.St} {H : Hp} {Q : VK} (h : EvN C W (nOp2 g fa fb) σ H Q) : tOp (rN2 C g) (Ev C (relV C) W fa) (Ev C (relV C) W fb) σ H Q := by
  obtain ⟨κ, ρ, S, s, p⟩ := h
  obtain ⟨k1, r1, s1, sm, q⟩ := EvN.bind (rel1 := relV C) s p
  refine ⟨k1, r1, s1, sm, q.mono ?_⟩
  rintro x H1 ⟨κ1, S1, a, g1, sm1, rx, p1⟩
  obtain ⟨k2, r2, s2, sm2, q2⟩ := EvN.bind (rel1 := relV C) sm1 p1
  refine ⟨k2, r2, s2, sm2, q2.mono ?_⟩
  rintro y H2 ⟨κ2, S2, b, g2, sm2, ry, p2⟩
  exact opN2_post sm2.cells (rx.grow g2) ry p2
theorem dn_op {op : Operator} (ho : OpR X (binaryOp op) (rN2 (cx X) g)) (ha : DE X W a fa) (hb : DE X W b fb) : DN X W (.BinOp a op b pos) (nOp2 g fa fb) := pe_imp (pe_op ho ha hb) fun _ _ _ h => ev_opN h
theorem oN_add : OpR X (binaryOp .Add) (rN2 (cx X) addN) := by
  intro pins s σ H x y v u Q I rx ry h
  obtain ⟨κ, S, dx, dy, zs, c, hx, hy, e, q⟩ := h
  unfold addN at e
  split at e
  · split at e
    · rename_i hz
      cases e
      obtain ⟨a, vs, ea, sa, ra⟩ := hx.lst
      obtain ⟨b, us, eb, sb, rb⟩ := hy.lst
      exact op_cat pins s σ H x y v u Q I rx ry ⟨a, b, vs, us, ea, eb, sa, sb, two_line (by rw [ra.length, rb.length]; exact hz), fun p hp => q p _ hp (ra.append rb)⟩
    · cases e
  · cases e
theorem oN_mul : OpR X (binaryOp .Mult) (rN2 (cx X) mulN) := by
  intro pins s σ H x y v u Q I rx ry h
  obtain ⟨κ, S, dx, dy, zs, c, hx, hy, e, q⟩ := h
  unfold mulN at e
  split at e
  · rename_i xs k
    split at e
    · rename_i hk
      obtain ⟨h1, h2, h3⟩ := hk
      cases e
      obtain ⟨a, vs, ea, sa, ra⟩ := hx.lst
      have hm : vs.length * (k.toNat) ≤ sizeLine := by
        have : vs.length * (k.toNat) ≤ 1000 * 1000 := Nat.mul_le_mul (by rw [ra.length]; exact h3) (by omega)
        rw [sizeLine_eq]; omega
      refine op_rep pins s σ H x y v u Q I rx ry ⟨a, k, vs, ea, hy.int, sa, by omega, by omega, hm, fun p hp => q p _ hp ?_⟩
      generalize k.toNat = n
      induction n with
      | zero => exact .nil
      | succ n ih => rw [List.replicate_succ, List.replicate_succ, List.flatten_cons, List.flatten_cons]; exact ra.append ih
    · cases e
  · cases e
end
/-! ### x = zip(a, b), then return len([.. for .. in x ..]) -/
def zC (X : Cx) (c : Addr) (φ : Heap → Prop) : HO := .ext fun h => (X.s_0.heap.objs.size ≤ c ∧ c ∉ X.fs) ∧ φ h
def add5 (X : Cx) (a b z TI TO i1 i2 : Addr) (H : Hp) : Hp := fun c =>
  if c = z then some (zC X z fun h => IsZip h z TI TO .none)
  else if c = TI then some (zC X TI fun h => IsPair h TI (.ref i1) (.ref i2))
  else if c = TO then some (zC X TO fun h => ∃ x y, IsPair h TO x y)
  else if c = i1 then some (zC X i1 fun h => h.IsTupleIter i1 a 0)
  else if c = i2 then some (zC X i2 fun h => h.IsTupleIter i2 b 0)
  else H c
section
variable {X : Cx} {pins : List (Addr × Obj)} {σ : L2.St} {H : Hp} {s : Shared} {a b z TI TO i1 i2 : Addr}
theorem add5_out {c : Addr} (h : c ≠ z ∧ c ≠ TI ∧ c ≠ TO ∧ c ≠ i1 ∧ c ≠ i2) : add5 X a b z TI TO i1 i2 H c = H c := by
  unfold add5
  rw [if_neg h.1, if_neg h.2.1, if_neg h.2.2.1, if_neg h.2.2.2.1, if_neg h.2.2.2.2]
theorem add5_in {c : Addr} (h : ¬ (c ≠ z ∧ c ≠ TI ∧ c ≠ TO ∧ c ≠ i1 ∧ c ≠ i2)) : ∃ φ, add5 X a b z TI TO i1 i2 H c = some (zC X c φ) := by
  unfold add5
  by_cases h1 : c = z
  · subst h1; exact ⟨_, if_pos rfl⟩
  · rw [if_neg h1]
    by_cases h2 : c = TI
    · subst h2; exact ⟨_, if_pos rfl⟩
    · rw [if_neg h2]
      by_cases h3 : c = TO
      · subst h3; exact ⟨_, if_pos rfl⟩
      · rw [if_neg h3]
        by_cases h4 : c = i1
        · subst h4; exact ⟨_, if_pos rfl⟩
        · rw [if_neg h4]
          by_cases h5 : c = i2
          · subst h5; exact ⟨_, if_pos rfl⟩
          · exact absurd ⟨h1, h2, h3, h4, h5⟩ h
theorem add5_some {c : Addr} {o : HO} (ho : ∀ φ, o ≠ .ext φ) (e : add5 X a b z TI TO i1 i2 H c = some o) : H c = some o := by
  by_cases h : c ≠ z ∧ c ≠ TI ∧ c ≠ TO ∧ c ≠ i1 ∧ c ≠ i2
  · rw [← e, add5_out h]
  · obtain ⟨φ, q⟩ := add5_in (X := X) (a := a) (b := b) (H := H) h
    rw [q] at e
    exact absurd (Option.some.inj e).symm (ho _)
theorem lay5 {h' : Heap} (I : L2.Inv X pins σ H s) (hz : IsZip h' (s.heap.objs.size + 4) (s.heap.objs.size + 2) (s.heap.objs.size + 3) .none) (hTI : IsPair h' (s.heap.objs.size + 2) (.ref s.heap.objs.size) (.ref (s.heap.objs.size + 1)))
    (hTO : IsPair h' (s.heap.objs.size + 3) .none .none) (h1 : h'.IsTupleIter s.heap.objs.size a 0) (h2 : h'.IsTupleIter (s.heap.objs.size + 1) b 0) (hk : ∀ c o, s.heap.get? c = some o → h'.get? c = some o) :
    L2.Inv X pins σ (add5 X a b (s.heap.objs.size + 4) (s.heap.objs.size + 2) (s.heap.objs.size + 3) s.heap.objs.size (s.heap.objs.size + 1) H) { s with heap := h' } := by
  generalize hn : s.heap.objs.size = n at *
  have low : ∀ c, c < n → c ≠ n + 4 ∧ c ≠ n + 2 ∧ c ≠ n + 3 ∧ c ≠ n ∧ c ≠ n + 1 := fun c hc => by
    have hc : (c : Nat) < n := hc
    refine ⟨?_, ?_, ?_, ?_, ?_⟩ <;> intro e <;> have e : (c : Nat) = _ := e <;> omega
  have trk : ∀ c o, H c = some o → c < n := fun c o e => by rw [← hn]; exact I.hok.lt e
  have obj : ∀ c o, s.heap.get? c = some o → c < n := fun c o e => by rw [← hn]; exact Heap.lt_size e
  have cst : ∀ k : Nat, X.s_0.heap.objs.size ≤ n + k ∧ n + k ∉ X.fs := fun k => ⟨by have := I.sz; rw [hn] at this; exact Nat.le_trans this (Nat.le_add_right _ _), I.nofs (by rw [hn]; exact Nat.le_add_right _ _)⟩
  refine I.un (t' := s.toks) (h' := h') ⟨fun c o e _ _ _ => hk c o e, fun c o e _ _ _ => ⟨o.slots, hk c o e⟩, fun c o e q _ => ?_, fun c o e _ => ⟨o, hk c o e⟩, fun c xs e => ?_, fun c o u e => ?_, fun c ps e => ⟨#[], ?_⟩⟩ fun c o e => ?_
  · rw [add5_out (low c (obj c o e))]; exact q
  · rw [add5_out (low c (trk c _ e))]; exact e
  · rw [add5_out (low c (trk c _ e))]; exact e
  · rw [add5_out (low c (trk c _ e)), e]; simp
  · by_cases hc : c ≠ n + 4 ∧ c ≠ n + 2 ∧ c ≠ n + 3 ∧ c ≠ n ∧ c ≠ n + 1
    · rw [add5_out hc] at e
      refine (I.hok c o e).stay (fun b u _ q => hk b u q) (fun b q => ?_) fun b xs q => ?_
      · rw [add5_out (low b (trk b _ q))]; exact q
      · rw [add5_out (low b (trk b _ q))]; exact q
    · have nn : ∀ i j : Nat, i ≠ j → (n + i : Addr) ≠ n + j := fun i j hij e => hij (by have e : (n + i : Nat) = n + j := e; omega)
      have e4 : ∀ c, c = n + 4 → add5 X a b (n + 4) (n + 2) (n + 3) n (n + 1) H c = some o → ObjOk X.prog X.w (add5 X a b (n + 4) (n + 2) (n + 3) n (n + 1) H) h' c o := by
        rintro c rfl e
        unfold add5 at e
        rw [if_pos rfl] at e
        cases e
        exact ⟨⟨cst 4, hz⟩, ⟨_, hz⟩, fun g1 g2 p k => ⟨p.1, k _ p.2⟩⟩
      have e2 : ∀ c, c = n + 2 → add5 X a b (n + 4) (n + 2) (n + 3) n (n + 1) H c = some o → ObjOk X.prog X.w (add5 X a b (n + 4) (n + 2) (n + 3) n (n + 1) H) h' c o := by
        rintro c rfl e
        unfold add5 at e
        rw [if_neg (nn 2 4 (by decide)), if_pos rfl] at e
        cases e
        exact ⟨⟨cst 2, hTI⟩, ⟨_, hTI⟩, fun g1 g2 p k => ⟨p.1, k _ p.2⟩⟩
      have e3 : ∀ c, c = n + 3 → add5 X a b (n + 4) (n + 2) (n + 3) n (n + 1) H c = some o → ObjOk X.prog X.w (add5 X a b (n + 4) (n + 2) (n + 3) n (n + 1) H) h' c o := by
        rintro c rfl e
        unfold add5 at e
        rw [if_neg (nn 3 4 (by decide)), if_neg (nn 3 2 (by decide)), if_pos rfl] at e
        cases e
        exact ⟨⟨cst 3, _, _, hTO⟩, ⟨_, hTO⟩, fun g1 g2 p k => ⟨p.1, let ⟨x, y, q⟩ := p.2; ⟨x, y, k _ q⟩⟩⟩
      have e0 : ∀ c, c = n → add5 X a b (n + 4) (n + 2) (n + 3) n (n + 1) H c = some o → ObjOk X.prog X.w (add5 X a b (n + 4) (n + 2) (n + 3) n (n + 1) H) h' c o := by
        rintro c rfl e
        unfold add5 at e
        rw [if_neg (show ¬ c = c + 4 from nn 0 4 (by decide)), if_neg (show ¬ c = c + 2 from nn 0 2 (by decide)), if_neg (show ¬ c = c + 3 from nn 0 3 (by decide)), if_pos rfl] at e
        cases e
        obtain ⟨ob, q, r⟩ := id h1
        exact ⟨⟨cst 0, h1⟩, ⟨_, q⟩, fun g1 g2 p k => ⟨p.1, let ⟨o, q, r⟩ := p.2; ⟨o, k _ q, r⟩⟩⟩
      have e1 : ∀ c, c = n + 1 → add5 X a b (n + 4) (n + 2) (n + 3) n (n + 1) H c = some o → ObjOk X.prog X.w (add5 X a b (n + 4) (n + 2) (n + 3) n (n + 1) H) h' c o := by
        rintro c rfl e
        unfold add5 at e
        rw [if_neg (nn 1 4 (by decide)), if_neg (nn 1 2 (by decide)), if_neg (nn 1 3 (by decide)), if_neg (show ¬ n + 1 = n from nn 1 0 (by decide)), if_pos rfl] at e
        cases e
        obtain ⟨ob, q, r⟩ := id h2
        exact ⟨⟨cst 1, h2⟩, ⟨_, q⟩, fun g1 g2 p k => ⟨p.1, let ⟨o, q, r⟩ := p.2; ⟨o, k _ q, r⟩⟩⟩
      by_cases q4 : c = n + 4
      · exact e4 c q4 e
      · by_cases q2 : c = n + 2
        · exact e2 c q2 e
        · by_cases q3 : c = n + 3
          · exact e3 c q3 e
          · by_cases q0 : c = n
            · exact e0 c q0 e
            · by_cases q1 : c = n + 1
              · exact e1 c q1 e
              · exact absurd ⟨q4, q2, q3, q0, q1⟩ hc
theorem drop5 (I : L2.Inv X pins σ (add5 X a b z TI TO i1 i2 H) s) (hn : H z = none ∧ H TI = none ∧ H TO = none ∧ H i1 = none ∧ H i2 = none) : L2.Inv X pins σ H s := by
  have out : ∀ c o, H c = some o → add5 X a b z TI TO i1 i2 H c = some o := fun c o e => by
    rw [add5_out ⟨fun q => ?_, fun q => ?_, fun q => ?_, fun q => ?_, fun q => ?_⟩]
    · exact e
    · rw [q, hn.1] at e; cases e
    · rw [q, hn.2.1] at e; cases e
    · rw [q, hn.2.2.1] at e; cases e
    · rw [q, hn.2.2.2.1] at e; cases e
    · rw [q, hn.2.2.2.2] at e; cases e
  refine I.un (t' := s.toks) (h' := s.heap) ⟨fun c o e _ _ _ => e, fun c o e _ _ _ => ⟨o.slots, e⟩, fun c o e q _ => ?_, fun c o e _ => ⟨o, e⟩, fun c xs e => add5_some (o := .tup xs) (fun φ z => nomatch z) e, fun c o u e => add5_some (o := .frz o u) (fun φ z => nomatch z) e, fun c ps e => ⟨#[], ?_⟩⟩ fun c o e => ?_
  · cases h : H c with
    | none => rfl
    | some o' => rw [out c o' h] at q; cases q
  · rw [add5_some (o := .tbl ps) (fun φ z => nomatch z) e]; simp
  · exact (I.hok c o (out c o e)).stay (fun b u _ q => q) (fun b q => add5_some (o := .own c) (fun φ z => nomatch z) q) fun b xs q => add5_some (o := .tup xs) (fun φ z => nomatch z) q
theorem fp5 (I : L2.Inv X pins σ (add5 X a b z TI TO i1 i2 H) s) {c : Addr} (hn : H c = none) (hc : ¬ (c ≠ z ∧ c ≠ TI ∧ c ≠ TO ∧ c ≠ i1 ∧ c ≠ i2)) : FpOk X pins H c := by
  obtain ⟨φ, q⟩ := add5_in (X := X) (a := a) (b := b) (H := H) hc
  have k := (I.hok c _ q).1.1
  refine ⟨hn, fun e => ?_, k.2, .inr k.1, fun x y e w => ?_, fun p hp w => ?_⟩
  · have := I.free; rw [← e, q] at this; cases this
  · have := I.freeC x y e; rw [w, q] at this; cases this
  · have := (I.pin p hp).2.1; rw [w, q] at this; cases this
end
/-- the five addresses of a zip object stand apart and are new -/
structure Z5 (H : Hp) (a b z TI TO i1 i2 : Addr) : Prop where
  ap : ZipApart z TI TO i1 i2 a b
  none : H z = none ∧ H TI = none ∧ H TO = none ∧ H i1 = none ∧ H i2 = none
def tZipV (X : Cx) (ta : TA) : TE := fun σ H Q => ta σ H fun vs H1 => ∃ a b xs ys, vs = [.ref a, .ref b] ∧ SqT X.K H1 a xs ∧ SqT X.K H1 b ys ∧ ∀ z TI TO i1 i2, Z5 H1 a b z TI TO i1 i2 → Q (.ref z) (add5 X a b z TI TO i1 i2 H1)
def iZipV (X : Cx) (i : Nat) : TI := fun σ H R => ∃ H0 a b z TI TO i1 i2 xs ys, σ[i]? = some (some (V.ref z)) ∧ H = add5 X a b z TI TO i1 i2 H0 ∧ Z5 H0 a b z TI TO i1 i2 ∧ SqT X.K H0 a xs ∧ SqT X.K H0 b ys ∧ R (RZ.ItzT X.K a b) H0
theorem pe_zipV {X : Cx} {e e2 : Expr} {ta : TA} {p pos : Pos} (hg : Gl X "zip") (hm : X.mg "zip" = none) (ha : PA X [e, e2] ta)
    (hs : starEach [e, e2] X.env = (false, eval e X.env) :: starEach [e2] X.env := by rfl) (hpl : (backTo pos (starEach [e2] X.env)).any (·.1) = false := by rfl) :
    PE X (.Call (.Name "zip" p) [e, e2] [] pos) (tZipV X ta) := by
  refine ⟨fun pins s σ H Q I h => ?_⟩
  refine Call_ (ld_blt I hg hm PyProof.Rows.boot_zip (PyProof.Rows.callWith_type1 (thn (ha.run pos pins s σ H _ I h) fun us s1 ⟨vs, H1, I1, r1, q1⟩ => ?_) hs hpl))
  obtain ⟨a, b, xs, ys, ex, hqx, hqy, q⟩ := q1
  subst ex
  cases r1 with
  | cons r rr =>
    cases rr with
    | cons r' rr =>
      cases rr
      cases r
      cases r'
      obtain ⟨its, rv, p1, _⟩ := I1.tuple hqx
      obtain ⟨its2, rv2, p2, _⟩ := I1.tuple hqy
      obtain ⟨o1, ho1, _⟩ := id p1
      obtain ⟨o2, ho2, _⟩ := id p2
      refine RZ.call_zipT (show s1.heap.IsTuple a its.toArray from p1) (show s1.heap.IsTuple b its2.toArray from p2) fun h' hz hTI hTO h1 h2 hsz hk => ?_
      have I2 := lay5 (a := a) (b := b) I1 hz hTI hTO h1 h2 hk
      have fr : ∀ k : Nat, H1 (s1.heap.objs.size + k) = none := fun k => I1.hok.fresh (Nat.le_add_right _ _)
      exact ⟨.ref (s1.heap.objs.size + 4), _, I2, rfl, q _ _ _ _ _ ⟨PySem.W.ktu_apart s1.heap.objs.size a b (Heap.lt_size ho1) (Heap.lt_size ho2), fr 4, fr 2, fr 3, fr 0, fr 1⟩⟩
theorem pi_zipV {X : Cx} {i : Nat} {x : Str} {pos tpos : Pos} {elts : List Expr} {kk : Nat} (hN : X.N[i]? = some x) (hv : Vis X.env.scope x) (hd : (x == ("__debug__" : Str)) = false := by decide) (hcd : (x == ("__classdict__" : Str)) = false := by decide) :
    PI X (.Tuple elts kk tpos) (.Name x pos) (iZipV X i) := by
  refine ⟨fun pins s σ H R I h => ?_⟩
  obtain ⟨H0, a, b, z, TI, TO, i1, i2, xs, ys, e1, e2, Z, hqx, hqy, q⟩ := h
  refine thn ((pe_var hN hv hd hcd).run pins s σ H (fun y H2 => y = .ref z ∧ H2 = H) I ⟨_, e1, rfl, rfl⟩) fun v s1 ⟨y, H2, I1, ry, ey, eh⟩ => ?_
  subst ey eh e2
  cases ry
  have az : add5 X a b z TI TO i1 i2 H0 z = some (zC X z fun h => IsZip h z TI TO .none) := if_pos rfl
  have aTI : add5 X a b z TI TO i1 i2 H0 TI = some (zC X TI fun h => IsPair h TI (.ref i1) (.ref i2)) := by unfold add5; rw [if_neg Z.ap.TIz, if_pos rfl]
  have aTO : add5 X a b z TI TO i1 i2 H0 TO = some (zC X TO fun h => ∃ x y, IsPair h TO x y) := by unfold add5; rw [if_neg Z.ap.TOz, if_neg (Ne.symm Z.ap.TITO), if_pos rfl]
  have a1 : add5 X a b z TI TO i1 i2 H0 i1 = some (zC X i1 fun h => h.IsTupleIter i1 a 0) := by unfold add5; rw [if_neg Z.ap.i1z, if_neg (Ne.symm Z.ap.TIi1), if_neg (Ne.symm Z.ap.TOi1), if_pos rfl]
  have a2 : add5 X a b z TI TO i1 i2 H0 i2 = some (zC X i2 fun h => h.IsTupleIter i2 b 0) := by unfold add5; rw [if_neg Z.ap.i2z, if_neg (Ne.symm Z.ap.TIi2), if_neg (Ne.symm Z.ap.TOi2), if_neg (Ne.symm Z.ap.i12), if_pos rfl]
  have hz := (I1.hok _ _ az).1.2
  have hTI := (I1.hok _ _ aTI).1.2
  have hTO := (I1.hok _ _ aTO).1.2
  have h1 := (I1.hok _ _ a1).1.2
  have h2 := (I1.hok _ _ a2).1.2
  refine wpAny_pyIter_zip hz ?_
  refine ⟨z, [z, TI, TO, i1, i2], _, RZ.ItzT X.K a b, H0, rfl, drop5 I1 Z.none, RZ.turn_zipT Z.ap, ⟨hz, hTI, hTO, h1, h2⟩, fun c hc => ?_, q⟩
  have e' : c = z ∨ c = TI ∨ c = TO ∨ c = i1 ∨ c = i2 := by simpa using hc
  have n0 := Z.none
  refine fp5 I1 ?_ ?_
  · rcases e' with e | e | e | e | e
    · rw [e]; exact n0.1
    · rw [e]; exact n0.2.1
    · rw [e]; exact n0.2.2.1
    · rw [e]; exact n0.2.2.2.1
    · rw [e]; exact n0.2.2.2.2
  · rintro ⟨g1, g2, g3, g4, g5⟩
    rcases e' with e | e | e | e | e
    · exact g1 e
    · exact g2 e
    · exact g3 e
    · exact g4 e
    · exact g5 e
noncomputable def sZipLen (i : Nat) (ga : Env' → M (List Val)) (bt : TB) (c : Env' → M Bool) (el : Env' → M Val) (vs : List Nat) : SD := fun ρ S => (ga ρ S).st ρ fun us ρ' S' => match us with
  | [.d (.tup xs), .d (.tup ys)] => (match intsD xs, intsD ys with
    | some ns, some ms => sRet (dCallB lenD (dCons (dN (nLc (fun _ => M.pure ⟨zipD (ns.map .int) (ms.map .int), []⟩) bt c el vs)) dNil)) (ρ'.set i none) S'
    | _, _ => .bad)
  | _ => .bad
section
variable {X : Cx} {W : WX} {e e2 elt : Expr} {ifs : List Expr} {scope : Scope} {own : List (Str × Nat)} {ga : Env' → M (List Val)} {ts : List Nat} {bt : TB} {g : TG} {cond : Env' → M Bool} {fe : Env' → M Val} {x : Str} {p1 p2 p3 p4 p5 p6 p7 p8 p9 tpos : Pos} {elts : List Expr} {kk : Nat}
theorem Sim.lose {C : Ctx} {κ : Ks} {H : Hp} {σ : L2.St} {ρ : Env'} {S : Store} {i : Nat} {v : V} (s : Sim C κ H σ ρ S) : Sim C κ H (σ.set i (some v)) (ρ.set i none) S :=
  ⟨s.cells, by rw [List.length_set, List.length_set, s.len], fun j y e => by
    by_cases hj : i = j
    · subst hj
      by_cases hl : i < ρ.length
      · rw [List.getElem?_set_self hl] at e
        cases e
      · rw [List.getElem?_eq_none (by rw [List.length_set]; omega)] at e
        cases e
    · rw [List.getElem?_set_ne hj] at e
      obtain ⟨u, q, r'⟩ := s.env j y e
      exact ⟨u, by rw [List.getElem?_set_ne hj]; exact q, r'⟩⟩
theorem dss_zipLen (i : Nat) (hc : X.calm = true) (hN : X.N.Nodup) (hgz : Gl X "zip") (hmz : X.mg "zip" = none) (hgl : Gl X "len") (hml : X.mg "len" = none)
    (ha : DA X W [e, e2] ga) (ok : BlkOk X.N X.env.scope scope own)
    (hg : ∀ (s : Shared) (H : Hp) (C : Addr) (cl : List (Str × Addr)) (fp : List Addr), DG (X.blk s H scope (compEnvC scope cl C X.env) fp) (.Tuple elts kk tpos) ts bt g)
    (ht : ∀ (s : Shared) (H : Hp) (C : Addr) (cl : List (Str × Addr)) (fp : List Addr), PTs (X.blk s H scope (compEnvC scope cl C X.env) fp) ifs (Ev (cx X) relEq W0 cond))
    (he : ∀ (s : Shared) (H : Hp) (C : Addr) (cl : List (Str × Addr)) (fp : List Addr), DE (X.blk s H scope (compEnvC scope cl C X.env) fp) W0 elt fe)
    (hts : ∀ i ∈ ts, i ∈ own.map (·.2))
    (hi : X.N[i]? = some x := by rfl) (hx : Loc X.env.scope x := by first | exact Or.inl rfl | exact Or.inr rfl) (hv : Vis X.env.scope x := by first | exact Or.inl rfl | exact Or.inr (Or.inl rfl) | exact Or.inr (Or.inr rfl))
    (hsw : swapsWith (.Call (.Name "zip" p2) [e, e2] [] p3) (some (.Name x p1)) p4.line X.env = pure false := by rfl)
    (hf : X.fn x = true ∨ X.env.scope.names.lookup x = some .local := by first | exact .inl rfl | exact .inr rfl)
    (hs1 : starEach [e, e2] X.env = (false, eval e X.env) :: starEach [e2] X.env := by rfl) (hpl : (backTo p3 (starEach [e2] X.env)).any (·.1) = false := by rfl)
    (hd : (x == ("__debug__" : Str)) = false := by decide) (hcd : (x == ("__classdict__" : Str)) = false := by decide)
    (hs2 : ∀ v, foldedSetIterable (.Name x p6) X.env v = pure v := by intro _; rfl)
    (hs3 : starEach [.ListComp elt [⟨.Tuple elts kk tpos, .Name x p6, ifs, 0⟩] scope p7] X.env = (false, eval (.ListComp elt [⟨.Tuple elts kk tpos, .Name x p6, ifs, 0⟩] scope p7) X.env) :: starEach [] X.env := by rfl) :
    DSs X W [.Assign [.Name x p1] (.Call (.Name "zip" p2) [e, e2] [] p3) p4, .Return (some (.Call (.Name "len" p5) [.ListComp elt [⟨.Tuple elts kk tpos, .Name x p6, ifs, 0⟩] scope p7] [] p8)) p9] (sZipLen i ga bt cond fe (own.map (·.2))) :=
  ⟨fun pins s0 σ H D I h => (pss_cons (ps_set (i := i) hN hi hx (pe_zipV hgz hmz ha hs1 hpl) hsw hf)
    (pss_one (ps_ret (pe_callB c_len hgl hml (by rfl) (pa_cons (pe_lc (te := Ev (cx X) (relV (cx X)) W0 fe) hc hN (pi_zipV hi hv hd hcd) ok (fun s H C cl fp => (hg s H C cl fp).pg) ht he hs2) (da_nil (W := W)) hs3) (by decide) (by decide) hs3)))).run pins s0 σ H D I (by
  obtain ⟨κ, ρ, S, s, p⟩ := h
  obtain ⟨k1, r1, s1, sm, q⟩ := evS_bind (rel := relVs (cx X)) s p
  refine ⟨k1, r1, s1, sm, q.mono ?_⟩
  rintro us H1 ⟨κ1, S1, vs, g1, sm1, rx, p1⟩
  split at p1
  · rename_i xs ys
    split at p1
    · rename_i ns ms en em
      have exs := intsD_eq en
      have eys := intsD_eq em
      subst exs eys
      obtain ⟨u1, r0, e0, ru1, u2, r2, e2', ru2, rnil⟩ := rx
      rw [show r2 = [] from rnil] at e2'
      subst e2' e0
      obtain ⟨a, vs1, ea, ha1, ra⟩ := Rep.tup_iff.mp (show Rep (cx X) κ1 H1 (.tup (ns.map .int)) u1 from ru1)
      obtain ⟨b, vs2, eb, hb1, rb⟩ := Rep.tup_iff.mp (show Rep (cx X) κ1 H1 (.tup (ms.map .int)) u2 from ru2)
      have ev1 := RepL.ints ns ra
      have ev2 := RepL.ints ms rb
      subst ea eb ev1 ev2
      refine ⟨a, b, _, _, rfl, .of ha1, .of hb1, fun z TI TO i1 i2 Z => ?_⟩
      have hil : i < σ.length := by
        rw [I.len]
        exact (List.getElem?_eq_some_iff.mp hi).1
      have h0 : EvS (cx X) W (sRet (dCallB lenD (dCons (dN (nLc (fun _ => M.pure ⟨zipD (ns.map .int) (ms.map .int), []⟩) bt cond fe (own.map (·.2)))) dNil))) D (σ.set i (some (.ref z))) H1 := ⟨κ1, ρ.set i none, S1, sm1.lose, p1⟩
      have h1 : Ev (cx X) (relV (cx X)) W (dCallB lenD (dCons (dN (nLc (fun _ => M.pure ⟨zipD (ns.map .int) (ms.map .int), []⟩) bt cond fe (own.map (·.2)))) dNil)) (σ.set i (some (.ref z))) H1 D.rt := by
        obtain ⟨κ, ρ, S, s, p⟩ := h0
        obtain ⟨k1, r1, s1, sm, q⟩ := evS_bind (rel := relV (cx X)) s p
        refine ⟨k1, r1, s1, sm, q.mono ?_⟩
        rintro b H1 ⟨κ1, S1, a, g1, sm1, r, p1⟩
        exact p1 b κ1 H1 (.refl _ _) sm1.cells r
      have h2 := ev_lc (X' := X.blk s0 H1 scope (compEnvC scope [] 0 X.env) []) hts (hg s0 H1 0 [] []) rfl (ev_N (ev_cons (ev_callB h1)))
      obtain ⟨κ', ρ', S', s', p'⟩ := h2
      refine ⟨H1, a, b, z, TI, TO, i1, i2, _, _, List.getElem?_set_self hil, rfl, Z, .of ha1, .of hb1, ?_⟩
      exact p' _ κ' H1 (.refl _ _) s'.cells (wd_zip (gd := []) (gd2 := []) (SQ := fun H a xs => SqT X.K H a xs) rfl (fun κ2 H2 S2 g2 _ _ => ⟨_, .of (g2.tups _ _ ha1), RepL.of_ints ns⟩) fun κ2 H2 S2 g2 _ _ => ⟨_, .of (g2.tups _ _ hb1), RepL.of_ints ms⟩)
    · exact p1.elim
  · exact p1.elim)⟩
end
end Dn

/-! Dn15: sorted(tuples of whole numbers), t < u of such, list.index, sorted(set(list)). -/
namespace Dn
open PySem PySem.Spec PyProof.Rows L2
/-! ### t < u -/
def ltD2 (a b : D) : Option D := match a, b with
  | .tup xs, .tup ys => (match intsD xs, intsD ys with
    | some ns, some ms => some (.bl (HT.lexLt ns ms))
    | _, _ => none)
  | _, _ => none
theorem oD_lt2 {X : Cx} {k : Nat} (hr : Room k X.A) : OpR X (compareOp .Lt) (rD2 (cx X) ltD2) := by
  intro pins s σ H x y v u Q I rx ry h
  obtain ⟨κ, S, dx, dy, z, c, hx, hy, e, q⟩ := h
  unfold ltD2 at e
  split at e
  · split at e
    · rename_i ns ms e1 e2
      cases e
      have exs := intsD_eq e1
      have eys := intsD_eq e2
      subst exs eys
      obtain ⟨a, vs, ea, ha, ra⟩ := Rep.tup_iff.mp (show Rep (cx X) κ H (.tup (ns.map .int)) x from hx)
      obtain ⟨b, ws, eb, hb, rb⟩ := Rep.tup_iff.mp (show Rep (cx X) κ H (.tup (ms.map .int)) y from hy)
      have ev1 := RepL.ints ns ra
      have ev2 := RepL.ints ms rb
      subst ev1 ev2
      exact op_ltT (by have := hr.un; omega) pins s σ H x y v u Q I rx ry ⟨a, b, ns, ms, ea, eb, .of ha, .of hb, want c q repBl⟩
    · cases e
  · cases e
/-! ### xs.index(x) -/
def ixC (v a : Val) : M Val := fun S => match rd v S, rd a S with
  | some (.lst xs), some d => (match py (.lst xs), py d with
    | some (.list ds), some p => if SeqAt.shaped (.list ds) = true ∧ SeqAt.shaped p = true then (match ds.findIdx? (fun z => PyData.eqv z p) with
      | some j => .ok (.d (.int (j : Nat))) S
      | none => .bad) else .bad
    | _, _ => .bad)
  | _, _ => .bad
def dIndex (fo fx : Env' → M Val) : Env' → M Val := fun ρ => M.bind (fo ρ) fun v => M.bind (isLst v) fun _ => M.bind (fx ρ) fun a => ixC v a
section
variable {X : Cx} {W : WX} {apos cpos : Pos} {o e : Expr} {fo fx : Env' → M Val}
theorem de_index {k : Nat} (hr : Room k X.A) (slot : Slot "list" "index" "list.index" := by exact F.slot_list_index) (pa : PlainAttrs "list" := by exact F.plainAttrs_list) (hty : typeOf (.builtin "list.index") = pure (.type "method_descriptor") := by exact F.type_list_index) (ho : DE X W o fo) (hx : DE X W e fx)
    (hbase : attributeBase o "index" X.env (eval o X.env) = eval o X.env := by rfl)
    (hfew : ((backTo cpos (starEach [e] X.env)).all (fun x => !x.1) && (backToKw cpos (keywordEach [] X.env)).all (fun x => x.1.isSome)
      && decide ([e].length + ([] : List Keyword).length + (if ([] : List Keyword).isEmpty then 0 else 1) < 30)) = true := by rfl)
    (hline : (apos.endLine == cpos.line) = true := by rfl) (hs : starEach [e] X.env = (false, eval e X.env) :: starEach [] X.env := by rfl) (hplain : (backTo cpos (starEach [] X.env)).any (·.1) = false := by rfl) :
    DE X W (.Call (.Attribute o "index" apos) [e] [] cpos) (dIndex fo fx) := pe_imp (pe_bm pa slot hty (mt_indexD (by have := hr.un; omega)) ho (pa_cons hx pa_nil hs) hbase hfew hline hs hplain) fun σ H Q h => by
  obtain ⟨κ, ρ, S, s, p⟩ := h
  obtain ⟨k1, r1, s1, sm, q⟩ := Ev.bind (rel1 := relV (cx X)) s p
  refine ⟨k1, r1, s1, sm, q.mono ?_⟩
  rintro x H1 ⟨κ1, S1, v, g1, sm1, rx, p1⟩
  obtain ⟨a, vs, ex, hl, p2⟩ := isLst_post sm1.cells rx p1
  refine ⟨by rw [ex]; exact .inl ⟨rfl, vs, .inl (.inl hl)⟩, arg_one ?_⟩
  obtain ⟨k2, r2, s2, sm2, q2⟩ := Ev.bind (rel1 := relV (cx X)) sm1 p2
  refine ⟨k2, r2, s2, sm2, q2.mono ?_⟩
  rintro y H2 ⟨κ2, S2, w, g2, sm2, ry, p3⟩
  unfold ixC at p3
  split at p3
  · rename_i xs d e1 e2
    split at p3
    · rename_i ds pd e3 e4
      split at p3
      · rename_i hsh
        split at p3
        · rename_i j e5
          have rl := rd_rep sm2.cells (rx.grow g2) e1
          have rd' := rd_rep sm2.cells ry e2
          obtain ⟨hj, hjt, hno⟩ := List.findIdx?_eq_some_iff_getElem.mp e5
          subst ex
          exact ⟨a, y, pd, ds, j, ds[j], rfl, rfl, RepR.dp rl e3, RepR.dp rd' e4, hsh.1, hsh.2, List.getElem?_eq_getElem hj, hjt, fun m z' hm hz => by
            obtain ⟨hm2, e6⟩ := List.getElem?_eq_some_iff.mp hz
            rw [← e6]
            simpa using hno m hm, PostG.ok (a := Val.d (.int (j : Nat))) p3 sm2.cells RepV.int⟩
        · exact p3.elim
      · exact p3.elim
    · exact p3.elim
  · exact p3.elim
end
/-! ### sorted(tuples) -/
def tupsD : List D → Option (List (List Int))
  | [] => some []
  | .tup xs :: r => (match intsD xs, tupsD r with
    | some ns, some rows => some (ns :: rows)
    | _, _ => none)
  | _ :: _ => none
theorem tupsD_eq : ∀ {xs : List D} {rows : List (List Int)}, tupsD xs = some rows → xs = rows.map fun r => .tup (r.map .int)
  | [], _, h => by cases h; rfl
  | .tup xs :: r, rows, h => by
    unfold tupsD at h
    split at h
    · rename_i ns rs e1 e2
      cases h
      rw [intsD_eq e1, tupsD_eq e2]; rfl
    · cases h
  | .non :: _, _, h => by cases h
  | .bl _ :: _, _, h => by cases h
  | .int _ :: _, _, h => by cases h
  | .str _ :: _, _, h => by cases h
  | .lst _ :: _, _, h => by cases h
  | .dct _ _ :: _, _, h => by cases h
  | .glo _ :: _, _, h => by cases h
  | .scr _ :: _, _, h => by cases h
  | .ty _ :: _, _, h => by cases h
def insT (x : List Int) : List (List Int) → List (List Int)
  | [] => [x]
  | y :: r => if HT.lexLt y x = true then y :: insT x r else x :: y :: r
def isortT (rows : List (List Int)) : List (List Int) := rows.foldr insT []
theorem insT_perm (x : List Int) : ∀ l, (insT x l).Perm (x :: l)
  | [] => .refl _
  | y :: r => by
    unfold insT
    split
    · exact ((insT_perm x r).cons y).trans (.swap x y r)
    · exact .refl _
theorem isortT_perm : ∀ rows, (isortT rows).Perm rows
  | [] => .refl _
  | x :: r => (insT_perm x _).trans ((isortT_perm r).cons x)
theorem insT_pw (x : List Int) : ∀ {l}, l.Pairwise (fun p q => HT.lexLt q p = false) → (insT x l).Pairwise (fun p q => HT.lexLt q p = false)
  | [], _ => by unfold insT; exact List.pairwise_singleton _ _
  | y :: r, h => by
    obtain ⟨h1, h2⟩ := List.pairwise_cons.mp h
    unfold insT
    split
    · rename_i c
      refine List.pairwise_cons.mpr ⟨fun z m => ?_, insT_pw x h2⟩
      rcases List.mem_cons.mp ((insT_perm x r).mem_iff.mp m) with e | e
      · rw [e]; exact NtL.lex_asym _ _ c
      · exact h1 z e
    · rename_i c
      have c : HT.lexLt y x = false := by cases q : HT.lexLt y x with
        | true => exact absurd q c
        | false => rfl
      refine List.pairwise_cons.mpr ⟨fun z m => ?_, h⟩
      rcases List.mem_cons.mp m with e | e
      · rw [e]; exact c
      · exact NtL.lex_tr _ _ _ c (h1 z e)
theorem isortT_pw : ∀ rows, (isortT rows).Pairwise (fun p q => HT.lexLt q p = false)
  | [] => List.Pairwise.nil
  | x :: r => insT_pw x (isortT_pw r)
theorem lex_anti : ∀ {a b : List Int}, HT.lexLt a b = false → HT.lexLt b a = false → a = b
  | [], [], _, _ => rfl
  | [], y :: b, h, _ => by cases h
  | x :: a, [], _, h => by cases h
  | x :: a, y :: b, h1, h2 => by
    rw [HT.lexLt_cons] at h1 h2
    by_cases c : x = y
    · subst c
      rw [if_pos rfl] at h1 h2
      rw [lex_anti h1 h2]
    · rw [if_neg c] at h1
      rw [if_neg (fun z => c z.symm)] at h2
      have := of_decide_eq_false h1
      have := of_decide_eq_false h2
      omega
theorem isortT_eq {rows ms : List (List Int)} (p : ms.Perm rows) (s : ms.Pairwise (fun p q => HT.lexLt q p = false)) : ms = isortT rows :=
  List.Perm.eq_of_pairwise (le := fun p q => HT.lexLt q p = false) (fun a b _ _ h1 h2 => lex_anti h2 h1) s (isortT_pw rows) (p.trans (isortT_perm rows).symm)
def sortT : List D → Option (List D)
  | [.lst xs] => (match tupsD xs with
    | some rows => if (rows.all fun r => !r.isEmpty) = true ∨ rows.length < 2 then some ((isortT rows).map fun r => .tup (r.map .int)) else none
    | none => none)
  | _ => none
/-- the whole numbers of the tuple at an address -/
def kA (H : Hp) (b : Addr) : List Int := match H b with
  | some (.tup ws) => ws.map fun v => match v with
    | .int i => i
    | _ => 0
  | _ => []
theorem kA_eq {H : Hp} {b : Addr} {r : List Int} (h : H b = some (.tup (r.map V.int))) : kA H b = r := by
  unfold kA
  rw [h]
  show (r.map V.int).map _ = r
  rw [List.map_map]
  exact (List.map_congr_left fun _ _ => rfl).trans (List.map_id r)
theorem tups_at {C : Ctx} {κ : Ks} {H : Hp} : ∀ (rows : List (List Int)) {vs : List V}, RepL C κ H (rows.map fun r => .tup (r.map .int)) vs → ∃ ts : List Addr, vs = ts.map V.ref ∧ ts.map (kA H) = rows ∧ ∀ t ∈ ts, H t = some (.tup ((kA H t).map V.int))
  | [], _, h => ⟨[], h.nil_inv, rfl, fun _ m => nomatch m⟩
  | r :: rows, _, h => by
    obtain ⟨v, vs, e, h1, h2⟩ := h.cons_inv
    obtain ⟨ts, e1, e2, e3⟩ := tups_at rows h2
    obtain ⟨b, ws, e4, e5, e6⟩ := Rep.tup_iff.mp h1
    have e7 := RepL.ints r e6
    subst e7
    have e8 := kA_eq e5
    refine ⟨b :: ts, by rw [e, e4, e1]; rfl, by rw [List.map_cons, e8, e2], fun t m => ?_⟩
    rcases List.mem_cons.mp m with z | z
    · rw [z, e8]; exact e5
    · exact e3 t z
theorem tups_rep {C : Ctx} {κ : Ks} {H H' : Hp} (g : ∀ b o, H b = some o → H' b = some o) : ∀ (ts : List Addr), (∀ t ∈ ts, H t = some (.tup ((kA H t).map V.int))) → RepL C κ H' ((ts.map (kA H)).map fun r => .tup (r.map .int)) (ts.map V.ref)
  | [], _ => by unfold RepL; rfl
  | t :: ts, h => RepL.cons (Rep.tup_iff.mpr ⟨t, _, rfl, g _ _ (h t List.mem_cons_self), RepL.of_ints _⟩) (tups_rep g ts fun u m => h u (List.mem_cons_of_mem _ m))
section
variable {prog : Program} {w : World} {A : Around} {E : Value → Shared → Prop} {s : Shared}
def IsTI (h : Heap) (v : Value) (ns : List Int) : Prop := ∃ (a : Addr) (o : Obj) (items : Array Value) (n : Nat), v = .ref a ∧ h.get? a = some o ∧ o.cls = .type "tuple" ∧ o.data = .seq items n ∧ IntsAre items.toList ns
theorem IsTI.keeps {h h' : Heap} {v : Value} {ns : List Int} (x : IsTI h v ns) (k : ∀ b o, v = .ref b → h.get? b = some o → o.cls = .type "tuple" → h'.get? b = some o) : IsTI h' v ns := by
  obtain ⟨a, o, items, n, e, ho, hc, hd, hi⟩ := x
  exact ⟨a, o, items, n, e, k a o e ho hc, hc, hd, hi⟩
theorem lexKat {b fin : Bool} {Q : Bool → Shared → Prop} : ∀ (ps qs : List Value) (i : Nat) (ns ms : List Int), IntsAre ps ns → IntsAre qs ms → fin = decide (ps.length < qs.length) → Q (HT.lexLt ns ms) s → PySem.W.KatLex prog w A b fin Q (ps.zip qs) i s
  | _, _, i, _, _, .nil, .nil, hf, h => by
    have e : fin = false := by rw [hf]; rfl
    subst e
    exact PySem.W.kat_nil h
  | _, _, i, _, _, .nil, .cons c u hj, hf, h => by
    have e : fin = true := by rw [hf]; exact decide_eq_true (Nat.succ_pos _)
    subst e
    exact PySem.W.kat_nil h
  | _, _, i, _, _, .cons a t hi, .nil, hf, h => by
    have e : fin = false := by rw [hf]; exact decide_eq_false (Nat.not_lt_zero _)
    subst e
    exact PySem.W.kat_nil h
  | _, _, i, _, _, .cons a t hi, .cons c u hj, hf, h => by
    rename_i vs ns ws ms
    have hf' : fin = decide (vs.length < ws.length) := by
      rw [hf]; simp only [List.length_cons, Nat.add_lt_add_iff_right]
    rw [HT.lexLt_cons] at h
    refine PySem.W.kat_cons (wpAny_eqBool_int ?_)
    refine PySem.W.kat_go (fun e => PySem.W.kat_yes ?_) (fun e => PySem.W.kat_no ?_)
    · have hnm : a = c := by simpa using e
      rw [if_pos hnm] at h
      exact lexKat vs ws (i + 1) ns ms hi hj hf' h
    · have hnm : ¬ a = c := by simpa using e
      rw [if_neg hnm] at h
      exact oneLt_any_int h
theorem ti_cmp {vs : List Value} {k : Value → List Int} (hp : ∀ v ∈ vs, IsTI s.heap v (k v)) : SrtO.Cmp prog w A s (tuples' true) (fun p => p.1 ∈ vs) (SrtO.lt2 fun v u => HT.lexLt (k v) (k u)) := by
  intro p q hm hm'
  have h1 := hp _ hm
  have h2 := hp _ hm'
  show wpAny (model prog w) A (keyLt' (tuples' true) p.1 q.1) (fun r s' => s' = s ∧ r = HT.lexLt (k p.1) (k q.1)) (fun _ _ => False) s
  obtain ⟨a, o, its, n, e, ho, hc, hd, hi⟩ := h1
  obtain ⟨a', o', its', n', e', ho', hc', hd', hi'⟩ := h2
  generalize k p.1 = K1 at *
  generalize k q.1 = K2 at *
  rw [e, e']
  exact PySem.W.kat_lt ho hd ho' hd' (lexKat its.toList its'.toList 0 K1 K2 hi hi' (by rw [Array.length_toList, Array.length_toList]) ⟨rfl, rfl⟩)
theorem ti_firsts {h : Heap} {k : Value → List Int} : ∀ {vs : List Value}, (∀ v ∈ vs, IsTI h v (k v) ∧ k v ≠ []) → ∃ fs, TupsOf h (fun _ => false) vs fs ∧ fs.length = vs.length
  | [], _ => ⟨[], .nil, rfl⟩
  | v :: vs, hv => by
    obtain ⟨fs, h1, h2⟩ := ti_firsts fun u m => hv u (List.mem_cons_of_mem _ m)
    obtain ⟨⟨a, o, its, n, e, ho, hc, hd, hi⟩, hne⟩ := hv v List.mem_cons_self
    generalize k v = K at *
    generalize hl : its.toList = L at *
    cases hi with
    | nil => exact absurd rfl hne
    | cons c t hr =>
      refine ⟨.int c t :: fs, .cons ⟨a, o, its, n, e, ho, hc, hd, ?_, fun _ => ⟨c, t, rfl⟩, fun z => nomatch z⟩ h1, by rw [List.length_cons, List.length_cons, h2]⟩
      rw [← Array.getElem?_toList, hl]; rfl
theorem ti_sortable {a : Addr} {vs : List Value} {k : Value → List Int} (h2 : 2 ≤ vs.length) (hp : ∀ v ∈ vs, IsTI s.heap v (k v) ∧ k v ≠ []) (ha : ∀ o, s.heap.get? a = some o → o.cls ≠ .type "tuple") : SrtO.SortableO prog w A s a vs fun v u => HT.lexLt (k v) (k u) := by
  intro h' keep
  have hp' : ∀ v ∈ vs, IsTI h' v (k v) ∧ k v ≠ [] := fun v hm => ⟨(hp v hm).1.keeps fun b o e g c => keep b o (fun z => by subst z; exact ha o g c) g, (hp v hm).2⟩
  obtain ⟨fs, h3, h4⟩ := ti_firsts hp'
  exact ⟨tuples' true, fun Q E hq => tup_kind (s := { s with heap := h' }) (by omega) h3 hq, ti_cmp (s := { s with heap := h' }) fun v hm => (hp' v hm).1⟩
end
theorem c_sortedT {X : Cx} : CallR X (.builtin "sorted") (rDn (cx X) sortT) := by
  intro pins s σ H xs us Q I r h
  obtain ⟨κ, S, ds, z, c, hx, e, q⟩ := h
  unfold sortT at e
  split at e
  · rename_i xs'
    split at e
    · rename_i rows e0
      split at e
      · rename_i hne
        cases e
        obtain ⟨u, rfl, ru⟩ := hx.one
        obtain ⟨a, vs, ea, ha, rr⟩ := ru.lst
        rw [tupsD_eq e0] at rr
        obtain ⟨ts, e1, e2, e3⟩ := tups_at rows rr
        subst ea e1
        obtain ⟨its, rv, hl, hz⟩ := I.list (.inl (.inl ha))
        rw [Vals.ref1 r]
        have ei := nts_of rv
        have hti : ∀ t ∈ ts, IsTI s.heap (.ref t) (kA H t) := fun t m => by
          obtain ⟨its2, r2, hl2, hz2⟩ := I.tuple (.of (e3 t m))
          obtain ⟨o, ho, hc, n, hd⟩ := (show s.heap.IsTuple t its2.toArray from hl2)
          exact ⟨t, o, _, n, rfl, ho, hc, hd, ints_of_vals r2⟩
        have hv : ∀ v ∈ its, ∃ t ∈ ts, v = .ref t := fun v m => by
          rw [ei] at m
          obtain ⟨t, m1, m2⟩ := List.mem_map.mp m
          exact ⟨t, m1, m2.symm⟩
        have hlen : its.length = rows.length := by rw [ei, List.length_map, ← e2, List.length_map]
        refine SrtO.sorted_ord (NtL.swo_lexL fun v => kA H (adO v)) hl.isList (by rw [← rv.length]; exact hz) (fun h2 h₁ a' h3 kk => ?_) fun out h1 h2 => ?_
        · refine ti_sortable (s := { s with heap := h₁ }) h2 (fun v m => ?_) fun o e => ?_
          · obtain ⟨t, m1, m2⟩ := hv v m
            subst m2
            refine ⟨(hti t m1).keeps fun b o _ g _ => (kk b o g).2, ?_⟩
            show kA H t ≠ []
            rcases hne with hne | hne
            · have := List.all_eq_true.mp hne (kA H t) (by rw [← e2]; exact List.mem_map.mpr ⟨t, m1, rfl⟩)
              intro z
              rw [z] at this
              cases this
            · omega
          · have e' : some o = some (seqObj "list" its.toArray 0) := e.symm.trans h3
            cases e'
            intro c
            exact absurd (Value.type.inj c) (by decide)
        · have eo : out = (out.map adO).map Value.ref := ref_map fun u hm => by
            obtain ⟨t, _, e⟩ := hv u (h2.perm.mem_iff.mp hm)
            exact ⟨t, e⟩
          have hp : (out.map adO).Perm ts := by
            have p1 := h2.perm.map adO
            rw [ei, ad_map] at p1
            exact p1
          have hs : (out.map adO).Pairwise (fun p q => HT.lexLt (kA H q) (kA H p) = false) := List.pairwise_map.mpr (h1.imp fun {x y} z => z)
          have er : (out.map adO).map (kA H) = isortT rows := isortT_eq (by rw [← e2]; exact hp.map _) (List.pairwise_map.mpr hs)
          obtain ⟨ep, he'⟩ := PyProof.Rows.sortedAll_at s.heap its out.toArray
          have hlen2 : ((out.map adO).map V.ref).length ≤ sizeLine := by
            rw [List.length_map, hp.length_eq]
            rw [List.length_map] at hz
            exact hz
          have rvo : Vals ((out.map adO).map V.ref) out := by
            have z := of_nts (out.map adO)
            rw [← eo] at z
            exact z
          have hn := I.hok.fresh (Nat.le_succ s.heap.objs.size)
          refine ⟨.ref _, upd H (s.heap.objs.size + 1) (.lst ((out.map adO).map V.ref)), I.laid (t' := s.toks) (fun _ _ => PyProof.Rows.sortedAll_old) (Nat.le_succ _) ⟨hlen2, out, ep, rvo, he'⟩, rfl, ?_⟩
          refine q _ _ hn ?_
          rw [← er]
          exact tups_rep (fun b o h => h) _ fun t m => e3 t (hp.mem_iff.mp m)
      · cases e
    · cases e
  · cases e
end Dn
namespace L2
open PySem PySem.Spec PyProof.Rows
section
variable {P : Program} {w : World} {A : Around} {E : Value → Shared → Prop} {s : Shared}
/-- set(xs), xs a list of whole numbers: HandS.SetFor's worked proof for a tuple, turned to a list -/
theorem call_set_listI {l : Addr} {items : Array Value} (ns : List Int) {Q : Value → Shared → Prop} (hh : A.handled = none) (hl : s.heap.IsList l items) (hit : IntsAre items.toList ns) (hb : ns.length + 1 < scanBound)
    (h : ∀ (h' : Heap) (tk c : Nat), SetR w h' s.heap.objs.size (fun j => decide (j ∈ ns)) c → c ≤ ns.length → (∀ b o, s.heap.get? b = some o → h'.get? b = some o) → Q (.ref s.heap.objs.size) { s with heap := h', toks := tk }) :
    wpAny (model P w) A (call (.type "set") [.ref l]) Q E s := by
  have hisz : items.size = ns.length := by
    have q := IntsAre.length hit
    rw [Array.length_toList] at q
    exact q
  obtain ⟨c, tl, hmro⟩ := F.called_set.mro
  have hmade := F.called_set.made
  have hsub := F.called_set.sub
  refine wpAny_call (codeAny_of_tree ?_)
  show wpAny _ _ (callAny (.type "set") _) _ _ _
  refine wpAny_pure ⟨Code.quiet_builtin _ (by decide +kernel), codeAny_builtin F.entry_type_call ?_⟩
  rw [Around.under_plain (weight_type_call_type "set" [.ref l] []) rfl]
  have h1 := F.called_set.notType
  have h2 := F.called_set.canCreate
  have hct := F.typeCall_set_1 (.ref l)
  repeat (any_goals (first | assumption | wp_step))

  refine codeAny_mono (code_set_led1 (.ref l) (E := E) (Q₁ := fun obj s₁ => obj = .ref s.heap.objs.size ∧ s₁ = { s with heap := s.heap.push { cls := .type "set", dict := none, data := .set #[] 0 (.fresh 0 0 (!w.params.followText "set-order")) } }) ⟨rfl, rfl⟩) fun r s₁ hr => ?_
  cases r with
  | error e => exact hr
  | ok fl =>
    cases fl with
    | ret obj =>
      obtain ⟨rfl, rfl⟩ := hr
      have hS : (s.heap.push { cls := .type "set", dict := none, data := .set #[] 0 (.fresh 0 0 (!w.params.followText "set-order")) }).get? s.heap.objs.size = some { cls := .type "set", dict := none, data := .set #[] 0 (.fresh 0 0 (!w.params.followText "set-order")) } := Heap.get?_push_size _ rfl
      have hT : Shared.TypeIs { s with heap := s.heap.push { cls := .type "set", dict := none, data := .set #[] 0 (.fresh 0 0 (!w.params.followText "set-order")) } } (.ref s.heap.objs.size) "set" := ⟨_, hS, rfl⟩
      have hli := F.called_set.init.lookup
      have hbi := F.called_set.init.bind (.ref s.heap.objs.size)
      repeat (any_goals (first | assumption | wp_step))

      refine codeAny_mono (codeAny_call_builtin (R := wants (fun r s₂ => r = .none ∧ ∃ h' tk c, s₂ = { s with heap := h', toks := tk } ∧ SetR w h' s.heap.objs.size (fun j => decide (j ∈ ns)) c ∧ c ≤ ns.length ∧
          (∀ b o, s.heap.get? b = some o → h'.get? b = some o)) E) F.called_set.init.plain F.entry_set_init (check_set_init_1 hT ?_)) fun r₂ s₂ hr₂ => ?_
      · obtain ⟨ol, hol, hcl, nl, hdl⟩ := hl
        obtain ⟨ocls, odict, odata, oslots⟩ := ol
        simp only at hcl hdl
        subst hcl; subst hdl
        have hol' : (s.heap.push { cls := .type "set", dict := none, data := .set #[] 0 (.fresh 0 0 (!w.params.followText "set-order")) }).get? l = some { cls := .type "list", dict := odict, data := .seq items nl, slots := oslots } := Heap.get?_push_of_some _ hol
        have hsls := F.sub_list_set
        have hslf := F.sub_list_frozenset
        have hne : (Value.type "list" == Value.type "dict") = false := by decide
        have hl1 : (s.heap.push { cls := .type "set", dict := none, data := .set #[] 0 (.fresh 0 0 (!w.params.followText "set-order")) }).IsList l items := ⟨_, hol', rfl, nl, rfl⟩
        unfold Builtin.«set.__init__» noKeywords Builtin.Frozenset.updateFrom
        generalize hPI : pyIter = PI
        wp_walk
        subst hPI

        refine wpAny_pyIter_list hl1 ?_
        refine wpAny_bind (wpAny_runValue ?_)
        have hlS : l < s.heap.objs.size := Heap.lt_size hol
        have hh3 : A.in1.in1.in1.handled = none := by simp [hh]
        have hz1 : (s.heap.push { cls := .type "set", dict := none, data := .set #[] 0 (.fresh 0 0 (!w.params.followText "set-order")) }).objs.size = s.heap.objs.size + 1 := Heap.size_push ..
        have hneI : l ≠ (s.heap.push { cls := .type "set", dict := none, data := .set #[] 0 (.fresh 0 0 (!w.params.followText "set-order")) }).objs.size := by
          rw [Heap.size_push]; exact Nat.ne_of_lt (Nat.lt_succ_of_lt hlS)
        have hSf : s.heap.objs.size ∉ [(s.heap.push { cls := .type "set", dict := none, data := .set #[] 0 (.fresh 0 0 (!w.params.followText "set-order")) }).objs.size, l] := by
          rw [Heap.size_push]; simp only [List.mem_cons, List.mem_singleton, List.not_mem_nil, or_false, not_or]
          exact ⟨Nat.ne_of_lt (Nat.lt_succ_self _), Nat.ne_of_gt hlS⟩
        have hval : ∀ (i : Nat) (v : Value), items[i]? = some v → ∃ k t, ns[i]? = some k ∧ v = .int k t := fun i v hv => by
          have hi : i < ns.length := by rw [← hisz]; exact (Array.getElem?_eq_some_iff.mp hv).1
          obtain ⟨t, e⟩ := PyProof.Rows.IntsAre.int_at hit i v (by rw [Array.getElem?_toList]; exact hv)
          refine ⟨ns[i], t, List.getElem?_eq_getElem hi, ?_⟩
          rw [e, List.getD_eq_getElem?_getD, List.getElem?_eq_getElem hi] <;> rfl
        refine set_update_ints ((Walks.list hh3 _ l hneI items).toS) s.heap.objs.size
          hSf ns hisz hb hval (items.size - 0) 0 _ (by omega) (Nat.zero_le _)
          ⟨⟨_, Heap.get?_push_size _ rfl, rfl, rfl⟩, (hl1.push _)⟩ ?hS0 ?hR
        case hS0 =>
          have hget : ((s.heap.push { cls := .type "set", dict := none, data := .set #[] 0 (.fresh 0 0 (!w.params.followText "set-order")) }).push { cls := .type "list_iterator", data := .fields #[.ref l, .int 0 0] }).get? s.heap.objs.size
              = some { cls := .type "set", dict := none, data := .set #[] 0 (.fresh 0 0 (!w.params.followText "set-order")) } := Heap.get?_push_of_some _ hS
          exact ⟨0, Nat.le_refl 0, setR_new_at hget⟩
        case hR =>
          intro s' c' hm hc' hS'
          obtain ⟨h', g2, d', tk', os'⟩ := s'
          have eg : g2 = s.gens := hm.gens
          have ed : d' = s.drawn := hm.drawn
          have eo : os' = s.os := hm.os
          subst eg; subst ed; subst eo
          show wpAny _ _ _ _ _ _
          refine wpAny_pure ?_
          show wpAny _ _ (ret Value.none) _ _ _
          rw [hisz] at hc'
          refine wpAny_pure ⟨rfl, h', tk', c', rfl, hS', hc', fun b o e => ?_⟩
          have hb0 : b < s.heap.objs.size := Heap.lt_size e
          have hb1 : b ≠ s.heap.objs.size := Nat.ne_of_lt hb0
          have hb2 : b ≠ (s.heap.push { cls := .type "set", dict := none, data := .set #[] 0 (.fresh 0 0 (!w.params.followText "set-order")) }).objs.size := by
            rw [Heap.size_push]; exact Nat.ne_of_lt (Nat.lt_succ_of_lt hb0)
          exact hm.heap b o (by simp only [List.mem_cons, List.mem_singleton, List.not_mem_nil, or_false, not_or]; exact ⟨hb1, hb2⟩) (Heap.get?_push_of_some _ (Heap.get?_push_of_some _ e))

      · cases r₂ with
        | error e => exact hr₂
        | ok fl₂ =>
          cases fl₂ with
          | ret r =>
            obtain ⟨rfl, h', tk, c', rfl, hS', hc', hk'⟩ := hr₂
            repeat (any_goals (first | assumption | wp_step))
            exact h _ _ _ hS' hc' hk'
          | _ => exact hr₂.elim
    | _ => exact hr.elim
end
end L2
namespace Dn
open PySem PySem.Spec PyProof.Rows L2
/-! ### sorted(set(xs)), xs a list of whole numbers -/
def tSetL (K : PySem.W.Frag) (ta : TE) (f : List Int → V → Hp → VK → Prop) : TE := fun σ H Q => ta σ H fun x H1 => ∃ (l : Addr) (ns : List Int), x = V.ref l ∧ SqL K H1 l (ns.map V.int) ∧ ns.length < 64 ∧ f ns x H1 Q
theorem pe_sortedSetL {X : Cx} {a : Expr} {ta : TE} {p p2 q pos : Pos} (hg : Gl X "sorted") (hm : X.mg "sorted" = none) (hg2 : Gl X "set") (hm2 : X.mg "set" = none) (ha : PE X a ta) (hc : X.calm = true := by rfl)
    (na : starEach [a] X.env = (false, eval a X.env) :: starEach [] X.env := by rfl) : PE X (.Call (.Name "sorted" p) [.Call (.Name "set" p2) [a] [] q] [] pos) (tSetL X.K ta fun ns _ H1 Q => ∀ p, H1 p = none → Q (.ref p) (upd H1 p (.lst ((sdd ns).map V.int)))) := by
  refine ⟨fun pins s σ H Q I h => ?_⟩
  refine Call_ (ld_blt I hg hm PyProof.Rows.boot_sorted ?_)
  refine PyProof.Rows.callWith_builtin1 (PyProof.Rows.args_cons ?_ rfl) rfl rfl
  refine Call_ (ld_blt I hg2 hm2 PyProof.Rows.boot_set ?_)
  refine PyProof.Rows.callWith_type1 (PyProof.Rows.args_cons (thn (ha.run pins s σ H _ I h) fun v s1 ⟨x, H1, I1, r1, q1⟩ => PyProof.Rows.args_nil ?_) na) na rfl
  obtain ⟨l, ns, rfl, hq, hl, q1⟩ := q1
  cases r1
  obtain ⟨its, r, pl, hz⟩ := I1.list hq
  refine call_set_listI ns (I1.ok.hd hc) pl.isList (ints_of_vals r) (by unfold scanBound; omega) fun h' tk c R hcn hk => ?_
  refine PyProof.Rows.args_nil ?_
  have I2 : Inv X pins σ H1 { s1 with heap := h', toks := tk } := I1.kept hk
  refine sorted_set R (I2.ok.hd hc) (by omega) fun s' p out c2 ns' k g o hp hg' hi hs hmm hl2 => ?_
  have hlen : (ns'.map V.int).length ≤ sizeLine := by rw [List.length_map, hl2, sizeLine_eq]; omega
  have hn : H1 p = none := I2.hok.fresh hp
  have J : Inv X pins σ (upd H1 p (.lst (ns'.map V.int))) { ({ s1 with heap := h', toks := tk } : Shared) with heap := s'.heap, gens := s'.gens, drawn := s'.drawn, toks := s'.toks } :=
    I2.call (ch := []) (Un.laid k hp hn) (I2.hok.laid k hp ⟨hlen, out.toList, c2, vals_of_ints hi, hg'⟩) (by rw [g]; exact I2.bare) (fun _ z => nomatch z)
  have e : s' = { ({ s1 with heap := h', toks := tk } : Shared) with heap := s'.heap, gens := s'.gens, drawn := s'.drawn, toks := s'.toks } := by
    cases s'
    cases s1
    cases o
    rfl
  rw [e]
  have en : ns' = sdd ns := pw_ext hs (pw_sdd ns) fun k => by rw [hmm, decide_eq_true_eq, mem_sdd]
  subst en
  exact ⟨.ref p, _, J, rfl, q1 p hn⟩
def setNL (v : Val) : M (List Int) := fun S => match rd v S with
  | some (.lst xs) => match intsD xs with
    | some ns => if ns.length < 64 then .ok ns S else .bad
    | none => .bad
  | _ => .bad
def nSSetL (f : Env' → M Val) : Env' → M (List D) := fun ρ => M.bind (f ρ) fun v => M.bind (setNL v) fun ns => M.pure ((sdd ns).map .int)
theorem setNL_ok {v : Val} {S S' : Store} {ns : List Int} (h : setNL v S = .ok ns S') : S' = S ∧ rd v S = some (.lst (ns.map .int)) ∧ ns.length < 64 := by
  unfold setNL at h
  split at h
  · split at h
    · split at h
      · rename_i e hz
        cases h
        rename_i er _
        rw [← intsD_eq e]
        exact ⟨rfl, er, hz⟩
      · cases h
    · cases h
  · cases h
section
variable {X : Cx} {W : WX} {a : Expr} {f : Env' → M Val} {p p2 q pos : Pos}
theorem dn_ssetL (hg : Gl X "sorted") (hm : X.mg "sorted" = none) (hg2 : Gl X "set") (hm2 : X.mg "set" = none) (ha : DE X W a f) (hc : X.calm = true := by rfl)
    (na : starEach [a] X.env = (false, eval a X.env) :: starEach [] X.env := by rfl) : DN X W (.Call (.Name "sorted" p) [.Call (.Name "set" p2) [a] [] q] [] pos) (nSSetL f) := pe_imp (pe_sortedSetL hg hm hg2 hm2 ha hc na) fun σ H Q h => by
  obtain ⟨κ, ρ, S, s, p⟩ := h
  obtain ⟨k1, r1, s1, sm, q⟩ := EvN.bind (rel1 := relV (cx X)) s p
  refine ⟨k1, r1, s1, sm, q.mono ?_⟩
  rintro x H1 ⟨κ1, S1, v, g1, sm1, rx, p1⟩
  have p2 : PostN (cx X) κ1 H1 ((setNL v S1).bind fun ns => M.pure ((sdd ns).map D.int)) Q (fun c d H' => W c d σ H') := p1
  cases e : setNL v S1 with
  | ok ns S2 =>
    rw [e] at p2
    obtain ⟨rfl, er, hz⟩ := setNL_ok e
    obtain ⟨l, vs, e1, e2, e3⟩ := (show RepR (cx X) κ1 H1 (.lst (ns.map .int)) x from rd_rep sm1.cells rx er)
    have ev : vs = ns.map V.int := RepL.ints ns e3
    subst ev
    exact ⟨l, ns, e1, .inl (.inl e2), hz, fun p hp => postN_laid (.refl _ _) sm1.cells (RepL.of_ints _) hp p2⟩
  | exc _ _ => rw [e] at p2; unfold setNL at e; split at e <;> (try split at e) <;> (try split at e) <;> cases e
  | bad => rw [e] at p2; exact False.elim p2
end
/-! ### a tuple, once -/
theorem tuple_mul1 (l : Addr) (items : Array Value) (n : Nat) (sl : Array (Option Value)) (dd : Option Addr) (u : Tok) :
    Meets (Builtin.«tuple.__mul__» ⟨[.ref l, .int 1 u], []⟩) (fun _ R s => s.heap.get? l = some { cls := .type "tuple", dict := dd, data := .seq items n, slots := sl } ∧ R (.ok (.ret (Value.ref l))) s) :=
  .of_wp fun prog w A R s h => by
    obtain ⟨hp, g, d, tk, os⟩ := s
    obtain ⟨hl, h⟩ := h
    have f1 := AutoSeq1.idx_int
    wp_walk using wpAny_loadPart' hl
    exact ⟨_, rfl, h⟩
section
variable {X : Cx}
theorem op_mulT1 : OpR X (binaryOp .Mult) (fun x y H Q => ∃ l xs, x = .ref l ∧ y = .int 1 ∧ SqT X.K H l xs ∧ Q (.ref l) H) := by
  intro pins s σ H x y v u Q I rx ry h
  obtain ⟨l, xs, rfl, rfl, hT, q⟩ := h
  cases rx
  obtain ⟨t, rfl⟩ := ry
  obtain ⟨its, r, ⟨⟨cls, dd, data, sl⟩, ho, hc, n, hd⟩, hs⟩ := I.tuple hT
  simp only at hc hd
  subst hc hd
  refine wpAny_binaryOp_repeat_ref (T := "tuple") (U := "int") (by decide) ⟨_, ho, rfl⟩ (fun s' => typeIs_int s' 1 t) noFill_tuple_mul F.fills_int_mul F.slot_int_rmul repeat_tuple F.slot_int_index.lookup
    (call_meets F.slot_int_rmul (typeIs_int s 1 t) F.entry_int_rmul (F.args_int_rmul_2 _ _) (int_rmul_tuple 1 t l its.toArray n dd sl)
      ⟨ho, rfl, ⟨_, ho, rfl⟩, call_meets F.slot_tuple_mul ⟨_, ho, rfl⟩ F.entry_tuple_mul (F.args_tuple_mul_2 _ _) (tuple_mul1 l its.toArray n sl dd t) ⟨ho, ?_⟩⟩)
  exact ⟨.ref l, H, I, rfl, q⟩
/-- times, and a tuple once -/
def mulD1 (a b : D) : Option D := match a, b with
  | .tup xs, .int k => if k = 1 then some (.tup xs) else mulD (.tup xs) (.int k)
  | a, b => mulD a b
theorem oD_mul1 : OpR X (binaryOp .Mult) (rD2 (cx X) mulD1) := by
  intro pins s σ H x y v u Q I rx ry h
  obtain ⟨κ, S, dx, dy, z, c, hx, hy, e, q⟩ := h
  unfold mulD1 at e
  split at e
  · rename_i xs k
    split at e
    · rename_i hk
      cases e
      obtain ⟨a, vs, ea, sa, ra⟩ := Rep.tup_iff.mp (show Rep (cx X) κ H (.tup xs) x from hx)
      have ey := Rep.int_iff.mp (show Rep (cx X) κ H (.int k) y from hy)
      subst hk
      refine op_mulT1 pins s σ H x y v u Q I rx ry ⟨a, vs, ea, ey, .of sa, ?_⟩
      rw [← ea]
      exact want c q hx
    · exact oD_mul pins s σ H x y v u Q I rx ry ⟨κ, S, _, _, z, c, hx, hy, e, q⟩
  · exact oD_mul pins s σ H x y v u Q I rx ry ⟨κ, S, _, _, z, c, hx, hy, e, q⟩
end
end Dn

/-! Dn18: zip of three tuples, gone through. -/
namespace Dn
open PySem PySem.Spec PyProof.Rows L2
namespace Z3
/-- what a tuple's iterator still draws, at its end too -/
theorem draw_at {prog : Program} {w : World} {A : Around} {s : Shared} {it a : Addr} {its : List Value} {i : Nat} (hh : A.handled = none) (hai : a ≠ it) (hit : s.heap.IsTupleIter it a i) (p : s.heap.IsTuple a its.toArray) :
    ∃ (n : Nat) (P : Nat → Value → Prop) (St : Nat → Heap → Prop), Draws prog w A it [it, a] n P St ∧ St i s.heap ∧ i ≤ n ∧ (its.length ≤ i → i = n) := by
  have D0 := Draws.tuple (prog := prog) (w := w) (A := A) hh it a hai its.toArray
  by_cases c : its.length ≤ i
  · exact ⟨i, fun _ _ => False, fun k h => k = i ∧ h.IsTupleIter it a i ∧ h.IsTuple a its.toArray, ⟨fun k h st => D0.live i h st.2, fun k h h' st hk => ⟨st.1, D0.frame i h h' st.2 hk⟩, fun k s Q E hlt st => absurd st.1 (Nat.ne_of_lt hlt), fun s Q E st hE => wpAny_nextOf_tuple_end hh st.2.1 st.2.2 (by simp; omega) hE⟩, ⟨rfl, hit, p⟩, Nat.le_refl _, fun _ => rfl⟩
  · exact ⟨its.toArray.size, _, _, D0, ⟨hit, p⟩, by rw [List.size_toArray]; omega, fun z => absurd z c⟩
/-- the tuples at a, b, c, the items in new threes -/
def It3 (K : PySem.W.Frag) (a b c : Addr) : It :=
  ⟨fun i H => ∃ (xs ys zs : List V) (x y z : V), SqT K H a xs ∧ SqT K H b ys ∧ SqT K H c zs ∧ xs[i]? = some x ∧ ys[i]? = some y ∧ zs[i]? = some z,
    fun i H v H' => ∃ T x y z, v = .ref T ∧ H T = none ∧ H' = upd H T (.tup [x, y, z]) ∧ (∀ xs, SqT K H a xs → xs[i]? = some x) ∧ (∀ ys, SqT K H b ys → ys[i]? = some y) ∧ ∀ zs, SqT K H c zs → zs[i]? = some z,
    fun i H => ∃ xs ys zs : List V, SqT K H a xs ∧ SqT K H b ys ∧ SqT K H c zs ∧ (xs.length ≤ i ∨ ys.length ≤ i ∨ zs.length ≤ i)⟩
structure Apart (z TI TO i1 i2 i3 a b c : Addr) : Prop where
  sep : ZipSep3 z TI TO i1 i2 i3 [i1, a] [i2, b] [i3, c]
  ai : a ≠ i1
  bi : b ≠ i2
  ci : c ≠ i3
theorem turn3 {P : Program} {w : World} {K : PySem.W.Frag} {elts : List Expr} {kk : Nat} {tpos : Pos} {a b c z TI TO i1 i2 i3 : Addr} (D : Apart z TI TO i1 i2 i3 a b c) :
    Turn P w K (.Tuple elts kk tpos) (It3 K a b c) [z, TI, TO, i1, i2, i3] z (fun i h => IsZip h z TI TO .none ∧ IsTupOf3 h TI (.ref i1) (.ref i2) (.ref i3) ∧ (∃ x y v, IsTupOf3 h TO x y v) ∧ h.IsTupleIter i1 a i ∧ h.IsTupleIter i2 b i ∧ h.IsTupleIter i3 c i) where
  mem := by simp
  obj := fun i h st q hq => by
    obtain ⟨hz, hTI, ⟨x, y, v, hTO⟩, ⟨o1, e1, _, d1⟩, ⟨o2, e2, _, d2⟩, ⟨o3, e3, _, d3⟩⟩ := st
    have e' : q = z ∨ q = TI ∨ q = TO ∨ q = i1 ∨ q = i2 ∨ q = i3 := by simpa using hq
    rcases e' with r | r | r | r | r | r
    · rw [r]; exact ⟨_, hz, fun v q => nomatch q⟩
    · rw [r]; exact ⟨_, hTI, fun v q => nomatch q⟩
    · rw [r]; exact ⟨_, hTO, fun v q => nomatch q⟩
    · rw [r]; exact ⟨o1, e1, fun v q => by rw [d1] at q; cases q⟩
    · rw [r]; exact ⟨o2, e2, fun v q => by rw [d2] at q; cases q⟩
    · rw [r]; exact ⟨o3, e3, fun v q => by rw [d3] at q; cases q⟩
  keep := fun i h h' st k => by
    obtain ⟨hz, hTI, ⟨x, y, v, hTO⟩, h1, h2, h3⟩ := st
    exact ⟨k z (by simp) _ hz, k TI (by simp) _ hTI, ⟨x, y, v, k TO (by simp) _ hTO⟩, h1.at fun o q => k i1 (by simp) o q, h2.at fun o q => k i2 (by simp) o q, h3.at fun o q => k i3 (by simp) o q⟩
  item := by
    intro X hP hw hK hc i pins s σ H E I hf st hg
    subst hP hw hK
    obtain ⟨hz, hTI, ⟨x0, y0, v0, hTO⟩, h1, h2, h3⟩ := st
    obtain ⟨xs, ys, zs, x, y, v, hqx, hqy, hqz, hx, hy, hv⟩ := hg
    obtain ⟨its, rv, p, _⟩ := I.tuple hqx
    obtain ⟨its2, rv2, p2, _⟩ := I.tuple hqy
    obtain ⟨its3, rv3, p3, _⟩ := I.tuple hqz
    obtain ⟨u, hu, ru⟩ := rv.get hx
    obtain ⟨u2, hu2, ru2⟩ := rv2.get hy
    obtain ⟨u3, hu3, ru3⟩ := rv3.get hv
    have hzl : z < s.heap.objs.size := Heap.lt_size hz
    have hd := I.ok.hd hc
    have D1 := Draws.tuple (prog := X.prog) (w := X.w) (A := X.A.in1) hd i1 a D.ai its.toArray
    have D2 := Draws.tuple (prog := X.prog) (w := X.w) (A := X.A.in1) hd i2 b D.bi its2.toArray
    have D3 := Draws.tuple (prog := X.prog) (w := X.w) (A := X.A.in1) hd i3 c D.ci its3.toArray
    refine wpAny_pyNext_zipD3_item D.sep D1 D2 D3 hz hTI hTO ⟨h1, p⟩ ⟨h2, p2⟩ ⟨h3, p3⟩ (by rw [List.size_toArray]; exact (List.getElem?_eq_some_iff.mp hu).1) (by rw [List.size_toArray]; exact (List.getElem?_eq_some_iff.mp hu2).1) (by rw [List.size_toArray]; exact (List.getElem?_eq_some_iff.mp hu3).1) fun w1 w2 w3 h' tk q1 q2 q3 z' TO' s1 s2 s3 hT hsz hk => ?_
    have e1 : w1 = u := by have h2 : its[i]? = some w1 := by simpa using q1
                           rw [hu] at h2; exact (Option.some.inj h2).symm
    have e2 : w2 = u2 := by have h2 : its2[i]? = some w2 := by simpa using q2
                            rw [hu2] at h2; exact (Option.some.inj h2).symm
    have e3 : w3 = u3 := by have h2 : its3[i]? = some w3 := by simpa using q3
                            rw [hu3] at h2; exact (Option.some.inj h2).symm
    subst e1 e2 e3
    refine ⟨_, rfl, wpAny_letOwnedTupleGo_zip (s := { s with heap := h', toks := tk }) z' fun h'' z'' sb => ?_⟩
    have hT2 : h''.get? s.heap.objs.size = some { cls := .type "tuple", data := .seq #[w1, w2, w3] } := (sb.2 _ (Nat.ne_of_gt hzl)).trans hT
    have new : ObjOk X.prog X.w (upd H s.heap.objs.size (.tup [x, y, v])) h'' s.heap.objs.size (.tup [x, y, v]) :=
      ⟨by show 3 ≤ sizeLine; decide, [w1, w2, w3], .cons ru (.cons ru2 (.cons ru3 .nil)), ⟨_, hT2, rfl, _, rfl⟩⟩
    have I1 : Inv X pins σ (upd H s.heap.objs.size (.tup [x, y, v])) { s with heap := h'', toks := tk } :=
      I.turnedNew (ch := [z, TI, TO, i1, i2, i3]) (fun q o hb e => (sb.2 q (fun r => hb (by simp [r]))).trans (hk q o (fun r => hb (by simp [r])) (fun r => hb (by simp [r])) (fun r => hb (by simp [r])) (fun r => hb (by simp [r])) (fun r => hb (by simp [r])) e)) hf (Nat.le_refl _) new
    refine ⟨.ref s.heap.objs.size, _, I1, rfl, ⟨_, x, y, v, rfl, I.hok.fresh (Nat.le_refl _), rfl, fun l hl => by rw [I.tuple_inj hl hqx]; exact hx, fun l hl => by rw [I.tuple_inj hl hqy]; exact hy, fun l hl => by rw [I.tuple_inj hl hqz]; exact hv⟩, ⟨z'', ?_, ⟨w1, w2, w3, ?_⟩, ?_, ?_, ?_⟩, fun q hqm => ?_⟩
    · exact (sb.2 _ D.sep.TIz).trans (hk _ _ D.sep.TIz D.sep.TITO D.sep.TIi1 D.sep.TIi2 D.sep.TIi3 hTI)
    · exact (sb.2 _ D.sep.TOz).trans TO'
    · exact s1.1.at fun o q => (sb.2 _ (Ne.symm D.sep.zi1)).trans q
    · exact s2.1.at fun o q => (sb.2 _ (Ne.symm D.sep.zi2)).trans q
    · exact s3.1.at fun o q => (sb.2 _ (Ne.symm D.sep.zi3)).trans q
    · have hlt : q < s.heap.objs.size := by
        have e' : q = z ∨ q = TI ∨ q = TO ∨ q = i1 ∨ q = i2 ∨ q = i3 := by simpa using hqm
        rcases e' with r | r | r | r | r | r
        · rw [r]; exact hzl
        · rw [r]; exact Heap.lt_size hTI
        · rw [r]; exact Heap.lt_size hTO
        · rw [r]; obtain ⟨_, e1, _⟩ := h1; exact Heap.lt_size e1
        · rw [r]; obtain ⟨_, e2, _⟩ := h2; exact Heap.lt_size e2
        · rw [r]; obtain ⟨_, e3, _⟩ := h3; exact Heap.lt_size e3
      rw [upd_ne (Nat.ne_of_lt hlt)]
      exact (hf q hqm).1
  done := by
    intro X hP hw hK hc i pins s σ H E I hf st hg
    subst hP hw hK
    obtain ⟨hz, hTI, ⟨x0, y0, v0, hTO⟩, h1, h2, h3⟩ := st
    obtain ⟨xs, ys, zs, hqx, hqy, hqz, hend⟩ := hg
    obtain ⟨its, rv, p, _⟩ := I.tuple hqx
    obtain ⟨its2, rv2, p2, _⟩ := I.tuple hqy
    obtain ⟨its3, rv3, p3, _⟩ := I.tuple hqz
    have l1 := rv.length
    have l2 := rv2.length
    have l3 := rv3.length
    have hd := I.ok.hd hc
    obtain ⟨n1, P1, S1, D1, s1, b1, c1⟩ := draw_at (prog := X.prog) (w := X.w) (A := X.A.in1) hd D.ai h1 (show s.heap.IsTuple a its.toArray from p)
    obtain ⟨n2, P2, S2, D2, s2, b2, c2⟩ := draw_at (prog := X.prog) (w := X.w) (A := X.A.in1) hd D.bi h2 (show s.heap.IsTuple b its2.toArray from p2)
    obtain ⟨n3, P3, S3, D3, s3, b3, c3⟩ := draw_at (prog := X.prog) (w := X.w) (A := X.A.in1) hd D.ci h3 (show s.heap.IsTuple c its3.toArray from p3)
    have he : i = n1 ∨ i = n2 ∨ i = n3 := by
      rcases hend with q | q | q
      · exact .inl (c1 (by omega))
      · exact .inr (.inl (c2 (by omega)))
      · exact .inr (.inr (c3 (by omega)))
    exact wpAny_pyNext_zipD3_end D.sep D1 D2 D3 hz hTI hTO s1 s2 s3 b1 b2 b3 he fun h' tk hk => ⟨rfl, I.turnedL (t' := tk) (ch := [z, TI, TO, i1, i2, i3]) (fun q o hb e =>
      hk q o (fun r => hb (by simp [r])) (fun r => hb (by simp [r])) (fun r => hb (by simp [r])) (fun r => hb (by simp [r])) (fun r => hb (by simp [r])) e) hf⟩
  self := fun A i s Q E st h => wpAny_pyIter_zip st.1 h
def i3T (K : PySem.W.Frag) (ta : TA) : TI := fun σ H R => ta σ H fun us H1 => ∃ a b c xs ys zs, us = [.ref a, .ref b, .ref c] ∧ SqT K H1 a xs ∧ SqT K H1 b ys ∧ SqT K H1 c zs ∧ R (It3 K a b c) H1
theorem pi_zip3 {X : Cx} {e e2 e3 : Expr} {ta : TA} {p pos tpos : Pos} {elts : List Expr} {kk : Nat} (hg : Gl X "zip") (hm : X.mg "zip" = none) (ha : PA X [e, e2, e3] ta)
    (hs : starEach [e, e2, e3] X.env = (false, eval e X.env) :: starEach [e2, e3] X.env := by rfl) (hpl : (backTo pos (starEach [e2, e3] X.env)).any (·.1) = false := by rfl) :
    PI X (.Tuple elts kk tpos) (.Call (.Name "zip" p) [e, e2, e3] [] pos) (i3T X.K ta) := by
  refine ⟨fun pins s σ H R I h => ?_⟩
  refine Call_ (ld_blt I hg hm PyProof.Rows.boot_zip (PyProof.Rows.callWith_type1 (thn (ha.run pos pins s σ H _ I h) fun us s1 ⟨vs, H1, I1, r1, q1⟩ => ?_) hs hpl))
  obtain ⟨a, b, c, xs, ys, zs, ex, hqx, hqy, hqz, q⟩ := q1
  subst ex
  cases r1 with
  | cons ra rr =>
  cases rr with
  | cons rb rr =>
  cases rr with
  | cons rc rr =>
  cases rr
  cases ra
  cases rb
  cases rc
  obtain ⟨its, rv, p1, _⟩ := I1.tuple hqx
  obtain ⟨its2, rv2, p2, _⟩ := I1.tuple hqy
  obtain ⟨its3, rv3, p3, _⟩ := I1.tuple hqz
  obtain ⟨o1, ho1, _⟩ := id p1
  obtain ⟨o2, ho2, _⟩ := id p2
  obtain ⟨o3, ho3, _⟩ := id p3
  have la : a < s1.heap.objs.size := Heap.lt_size ho1
  have lb : b < s1.heap.objs.size := Heap.lt_size ho2
  have lc : c < s1.heap.objs.size := Heap.lt_size ho3
  refine zip_begins3 (begins_tuple a its.toArray) (begins_tuple b its2.toArray) (begins_tuple c its3.toArray) p1 p2 p3 fun h' hz hTI hTO h1 h2 h3 hsz hk => wpAny_pyIter_zip hz ?_
  have I2 : Inv X pins σ H1 { s1 with heap := h' } := I1.kept (t' := s1.toks) hk
  have ap : Apart (s1.heap.objs.size + 5) (s1.heap.objs.size + 3) (s1.heap.objs.size + 4) s1.heap.objs.size (s1.heap.objs.size + 1) (s1.heap.objs.size + 2) a b c :=
    ⟨zip_sep3 (N := s1.heap.objs.size) (fp1 := [a]) (fp2 := [b]) (fp3 := [c]) (fun q hq => by rw [List.mem_singleton.mp hq]; exact la) (fun q hq => by rw [List.mem_singleton.mp hq]; exact lb) (fun q hq => by rw [List.mem_singleton.mp hq]; exact lc), Nat.ne_of_lt la, Nat.ne_of_lt (Nat.lt_succ_of_lt lb), Nat.ne_of_lt (Nat.lt_succ_of_lt (Nat.lt_succ_of_lt lc))⟩
  refine ⟨s1.heap.objs.size + 5, [s1.heap.objs.size + 5, s1.heap.objs.size + 3, s1.heap.objs.size + 4, s1.heap.objs.size, s1.heap.objs.size + 1, s1.heap.objs.size + 2], _, _, H1, rfl, I2, turn3 ap, ⟨hz, hTI, ⟨_, _, _, hTO⟩, ⟨_, h1, rfl, rfl⟩, ⟨_, h2, rfl, rfl⟩, ⟨_, h3, rfl, rfl⟩⟩, fun q hq => ?_, ?_⟩
  · have e' : q = s1.heap.objs.size + 5 ∨ q = s1.heap.objs.size + 3 ∨ q = s1.heap.objs.size + 4 ∨ q = s1.heap.objs.size ∨ q = s1.heap.objs.size + 1 ∨ q = s1.heap.objs.size + 2 := by simpa using hq
    have hle : s1.heap.objs.size ≤ q := by
      rcases e' with r | r | r | r | r | r
      · rw [r]; exact Nat.le_add_right _ _
      · rw [r]; exact Nat.le_add_right _ _
      · rw [r]; exact Nat.le_add_right _ _
      · rw [r]; exact Nat.le_refl _
      · rw [r]; exact Nat.le_add_right _ _
      · rw [r]; exact Nat.le_add_right _ _
    exact I1.fpOk hle (I1.hok.fresh hle)
  · assumption
end Z3
/-! ### as it is walked -/
def zip3D (xs ys zs : List D) : List D := (xs.zip (ys.zip zs)).map fun q => .tup [q.1, q.2.1, q.2.2]
def zi3W (v w u : Val) : M Walk := fun S => match v, w, u with
  | .d (.tup xs), .d (.tup ys), .d (.tup zs) => .ok ⟨zip3D xs ys zs, []⟩ S
  | _, _, _ => .bad
def arg3 {α : Type} (vs : List Val) (k : Val → Val → Val → M α) : M α := fun S => match vs with
  | [v, w, u] => k v w u S
  | _ => .bad
def dZip3 (g : Env' → M (List Val)) : Env' → M Walk := fun ρ => M.bind (g ρ) fun vs => arg3 vs zi3W
theorem zip3_get {xs ys zs : List D} {i : Nat} {d : D} (e : (zip3D xs ys zs)[i]? = some d) : ∃ x y z, xs[i]? = some x ∧ ys[i]? = some y ∧ zs[i]? = some z ∧ d = .tup [x, y, z] := by
  unfold zip3D at e
  rw [List.getElem?_map] at e
  obtain ⟨⟨x, y, z⟩, h, rfl⟩ := Option.map_eq_some_iff.mp e
  rw [List.getElem?_zip_eq_some] at h
  obtain ⟨h1, h2⟩ := h
  rw [List.getElem?_zip_eq_some] at h2
  exact ⟨x, y, z, h1, h2.1, h2.2, rfl⟩
theorem wd_zip3 {C : Ctx} {κ : Ks} {H : Hp} {a b c : Addr} {xs ys zs : List D} {K : PySem.W.Frag}
    (h1 : ∀ κ2 H2, Grow κ H κ2 H2 → ∃ vs, SqT K H2 a vs ∧ RepL C κ2 H2 xs vs) (h2 : ∀ κ2 H2, Grow κ H κ2 H2 → ∃ vs, SqT K H2 b vs ∧ RepL C κ2 H2 ys vs) (h3 : ∀ κ2 H2, Grow κ H κ2 H2 → ∃ vs, SqT K H2 c vs ∧ RepL C κ2 H2 zs vs) :
    WalkD C κ H (Z3.It3 K a b c) ⟨zip3D xs ys zs, []⟩ where
  go := fun i κ2 H2 S2 hi g c lv => by
    obtain ⟨v1, s1, r1⟩ := h1 κ2 H2 g
    obtain ⟨v2, s2, r2⟩ := h2 κ2 H2 g
    obtain ⟨v3, s3, r3⟩ := h3 κ2 H2 g
    obtain ⟨x, y, z, e1, e2, e3, _⟩ := zip3_get (List.getElem?_eq_getElem (show i < (zip3D xs ys zs).length from hi))
    obtain ⟨u1, q1, _⟩ := r1.get e1
    obtain ⟨u2, q2, _⟩ := r2.get e2
    obtain ⟨u3, q3, _⟩ := r3.get e3
    exact ⟨v1, v2, v3, u1, u2, u3, s1, s2, s3, q1, q2, q3⟩
  yld := fun i κ2 H2 S2 x H3 d e g c lv y => by
    obtain ⟨v1, s1, r1⟩ := h1 κ2 H2 g
    obtain ⟨v2, s2, r2⟩ := h2 κ2 H2 g
    obtain ⟨v3, s3, r3⟩ := h3 κ2 H2 g
    obtain ⟨T, w1, w2, w3, rfl, hT, rfl, y1, y2, y3⟩ := y
    obtain ⟨d1, d2, d3, e1, e2, e3, rfl⟩ := zip3_get (show (zip3D xs ys zs)[i]? = some d from e)
    obtain ⟨u1, q1, k1⟩ := r1.get e1
    obtain ⟨u2, q2, k2⟩ := r2.get e2
    obtain ⟨u3, q3, k3⟩ := r3.get e3
    rw [y1 v1 s1] at q1
    cases q1
    rw [y2 v2 s2] at q2
    cases q2
    rw [y3 v3 s3] at q3
    cases q3
    exact ⟨.laid hT, c.laid hT, Rep.tup_iff.mpr ⟨T, _, rfl, upd_same, .cons (k1.grow (.laid hT)) (.cons (k2.grow (.laid hT)) (.cons (k3.grow (.laid hT)) .nil))⟩⟩
  stop := fun κ2 H2 S2 g c lv => by
    obtain ⟨v1, s1, r1⟩ := h1 κ2 H2 g
    obtain ⟨v2, s2, r2⟩ := h2 κ2 H2 g
    obtain ⟨v3, s3, r3⟩ := h3 κ2 H2 g
    refine ⟨v1, v2, v3, s1, s2, s3, ?_⟩
    show v1.length ≤ (zip3D xs ys zs).length ∨ v2.length ≤ (zip3D xs ys zs).length ∨ v3.length ≤ (zip3D xs ys zs).length
    unfold zip3D
    rw [List.length_map, List.length_zip, List.length_zip, r1.length, r2.length, r3.length]
    omega
theorem di_zip3 {X : Cx} {W : WX} {e e2 e3 : Expr} {g : Env' → M (List Val)} {p pos tpos : Pos} {elts : List Expr} {kk : Nat} (hg : Gl X "zip") (hm : X.mg "zip" = none) (ha : DA X W [e, e2, e3] g)
    (hs : starEach [e, e2, e3] X.env = (false, eval e X.env) :: starEach [e2, e3] X.env := by rfl) (hpl : (backTo pos (starEach [e2, e3] X.env)).any (·.1) = false := by rfl) :
    DI X W (.Tuple elts kk tpos) (.Call (.Name "zip" p) [e, e2, e3] [] pos) (dZip3 g) := pi_imp (Z3.pi_zip3 hg hm ha hs hpl) fun σ H R h => by
  obtain ⟨κ, ρ, S, s, p⟩ := h
  obtain ⟨k1, r1, s1, sm, q⟩ := EvI.bind (rel1 := relVs (cx X)) s p
  refine ⟨k1, r1, s1, sm, q.mono ?_⟩
  rintro us H1 ⟨κ1, S1, vs, g1, sm1, rx, p1⟩
  have p1 : PostI (cx X) κ1 H1 (arg3 vs zi3W S1) R _ := p1
  unfold arg3 at p1
  split at p1
  · rename_i v w y
    obtain ⟨u, r0, e0, ru, u2, r2, e2, ru2, u3, r3, e3, ru3, rnil⟩ := rx
    have rnil : r3 = [] := rnil
    subst rnil
    subst e3
    subst e2
    subst e0
    unfold zi3W at p1
    split at p1
    · rename_i xs ys zs
      obtain ⟨a, ws, ea, hl, ra⟩ := Rep.tup_iff.mp (show Rep (cx X) κ1 H1 (.tup xs) u from ru)
      obtain ⟨b, ws2, eb, hl2, rb⟩ := Rep.tup_iff.mp (show Rep (cx X) κ1 H1 (.tup ys) u2 from ru2)
      obtain ⟨c, ws3, ec, hl3, rc⟩ := Rep.tup_iff.mp (show Rep (cx X) κ1 H1 (.tup zs) u3 from ru3)
      subst ea eb ec
      exact ⟨a, b, c, ws, ws2, ws3, rfl, .of hl, .of hl2, .of hl3, p1 _ κ1 H1 (.refl _ _) sm1.cells (wd_zip3 (fun κ2 H2 g2 => ⟨_, .of (g2.tups _ _ hl), ra.grow g2⟩) (fun κ2 H2 g2 => ⟨_, .of (g2.tups _ _ hl2), rb.grow g2⟩) fun κ2 H2 g2 => ⟨_, .of (g2.tups _ _ hl3), rc.grow g2⟩)⟩
    · exact p1.elim
  · exact p1.elim
end Dn

namespace Dn
open PySem PySem.Spec PyProof.Rows L2
namespace Zh
abbrev ZO (f0 : Value) (b : Bool) (TI TO : Addr) : Obj := { cls := .type "zip", dict := none, data := .fields #[f0, .bool b, .bool false, .ref TI, .ref TO], slots := #[] }
section
variable {prog : Program} {w : World} {A : Around} {E : Value → Shared → Prop} {s : Shared} {z TI TO i1 i2 T : Addr} {fp1 fp2 : List Addr} {n1 n2 i : Nat} {P1 P2 : Nat → Value → Prop} {St1 St2 : Nat → Heap → Prop} {b : Bool} {oT : Obj}
theorem alive {M : Model} {a : Addr} {o : Obj} {Q : Option Obj → Shared → Prop} (ho : s.heap.get? a = some o) (h : Q (some o) s) : wpAny M A (loadIfAlive a) Q E s := fun Γ p _ => by
  unfold loadIfAlive
  rw [Sem.wp_loadIfAlive, ho]
  simpa using h
theorem not_free {Q : Bool → Shared → Prop} (hz : s.heap.get? z = some (ZO (rawInt T) b TI TO)) (hT : s.heap.get? T = some oT) (hQ : ∀ h', h'.get? z = some (ZO (rawInt T) true TI TO) → Heap.SameBut z s.heap h' → Q false { s with heap := h' }) :
    wpAny (model prog w) A (Builtin.SmallTypes.ownedTupleIsFree (.ref z)) Q E s := by
  obtain ⟨hp, g, d, tk, os⟩ := s
  unfold Builtin.SmallTypes.ownedTupleIsFree
  refine wpAny_bind (wpAny_field hz rfl (x := rawInt T) rfl ?_)
  show wpAny _ _ (loadIfAlive T >>= _) _ _ _
  refine wpAny_bind (alive hT ?_)
  show wpAny _ _ (field (.ref z) 1 >>= _) _ _ _
  refine wpAny_bind (wpAny_field hz rfl (x := .bool b) rfl ?_)
  cases b with
  | true =>
    show wpAny _ _ (pure false) _ _ _
    exact wpAny_pure (hQ hp hz ⟨rfl, fun _ _ => rfl⟩)
  | false =>
    show wpAny _ _ (setField (.ref z) 1 (.bool true) >>= _) _ _ _
    refine wpAny_bind (wpAny_setField_rec hz (by simp) fun h' hz' hs => ?_)
    exact wpAny_pure (hQ h' hz' hs)
theorem next_handed {Q : Value → Shared → Prop} (D1 : Draws prog w A i1 fp1 n1 P1 St1) (D2 : Draws prog w A i2 fp2 n2 P2 St2) (S : ZipSep2 z TI TO i1 i2 fp1 fp2)
    (hz : s.heap.get? z = some (ZO (rawInt T) b TI TO)) (hT : s.heap.get? T = some oT) (hTI : IsTupOf2 s.heap TI (.ref i1) (.ref i2)) (st1 : St1 i s.heap) (st2 : St2 i s.heap) (hlt1 : i < n1) (hlt2 : i < n2)
    (hQ : ∀ x1 x2 h' tk, P1 i x1 → P2 i x2 → h'.get? z = some (ZO (rawInt T) true TI TO) → St1 (i + 1) h' → St2 (i + 1) h' → IsTupOf2 h' s.heap.objs.size x1 x2 → h'.objs.size = s.heap.objs.size + 1 →
      (∀ c o, c ≠ z → c ≠ i1 → c ≠ i2 → s.heap.get? c = some o → h'.get? c = some o) → Q (.ref s.heap.objs.size) { s with heap := h', toks := tk }) :
    wpAny (model prog w) A (Builtin.«zip.__next__» ⟨[.ref z], []⟩) (fun fin s' => ∃ v, fin = .done (.ret v) ∧ Q v s') E s := by
  obtain ⟨hp, g, d, tk0, os⟩ := s
  show wpAny _ _ (field (.ref z) 2 >>= _) _ _ _
  refine wpAny_bind (wpAny_field hz rfl (x := .bool false) rfl ?_)
  show wpAny _ _ (field (.ref z) 3 >>= _) _ _ _
  refine wpAny_bind (wpAny_field hz rfl (x := .ref TI) rfl ?_)
  refine wpAny_bind (wpAny_seqItems hTI rfl ?_)
  show wpAny _ _ (Builtin.SmallTypes.ownedTupleIsFree (.ref z) >>= _) _ _ _
  refine wpAny_bind (not_free hz hT fun g0 hz0 hs0 => ?_)
  have t1 : St1 i g0 := D1.over st1 hs0 S.zf1
  have t2 : St2 i g0 := D2.over st2 hs0 S.zf2
  simp only [Bool.false_eq_true, if_false]
  refine wpAny_bind ?_
  rw [← Array.forIn_toList]
  simp only [List.forIn_cons, List.forIn_nil]
  refine wpAny_bind (wpAny_bind (wpAny_holding ?_))
  show wpAny _ _ (Builtin.SmallTypes.nextOf (.ref i1) >>= _) _ _ ⟨g0, g, d, tk0, os⟩
  refine wpAny_bind (D1.item i _ _ _ hlt1 t1 fun x1 p1 tk1 hx1 sn1 hp1 => wpAny_pure ?_)
  replace hp1 : Heap.SameBut i1 g0 p1 := hp1
  refine wpAny_pure ?_
  refine wpAny_bind (wpAny_bind (wpAny_holding ?_))
  show wpAny _ _ (Builtin.SmallTypes.nextOf (.ref i2) >>= _) _ _ ⟨p1, g, d, tk1, os⟩
  refine wpAny_bind (D2.item i _ _ _ hlt2 (D2.over t2 hp1 S.sep1_2) fun x2 p2 tk2 hx2 sn2 hp2 => wpAny_pure ?_)
  replace hp2 : Heap.SameBut i2 p1 p2 := hp2
  refine wpAny_pure ?_
  refine wpAny_pure ?_
  refine wpAny_bind (wpAny_newTuple ?_ (by show 2 ≤ sizeLine; decide))
  refine wpAny_pure ⟨_, rfl, ?_⟩
  have hsz : p2.objs.size = hp.objs.size := by rw [hp2.1, hp1.1, hs0.1]
  show Q (.ref p2.objs.size) ⟨p2.push _, g, d, tk2, os⟩
  have keep : ∀ c o, c ≠ z → c ≠ i1 → c ≠ i2 → hp.get? c = some o → p2.get? c = some o := fun c o cz c1 c2 e => hp2.extBut _ _ c2 (hp1.extBut _ _ c1 (hs0.extBut _ _ cz e))
  have hT3 : (p2.push { cls := .type "tuple", data := .seq #[x1, x2] }).get? p2.objs.size = some { cls := .type "tuple", data := .seq #[x1, x2] } := Heap.get?_push_size _ rfl
  rw [hsz] at hT3 ⊢
  refine hQ x1 x2 _ tk2 hx1 hx2 (Heap.get?_push_of_some _ (hp2.extBut _ _ S.zi2 (hp1.extBut _ _ S.zi1 hz0))) ?_ ?_ hT3 (by rw [Heap.size_push, hsz]) fun c o cz c1 c2 e => Heap.get?_push_of_some _ (keep c o cz c1 c2 e)
  · exact D1.frame _ _ _ (D1.over sn1 hp2 S.sep2_1) fun b hb o e => Heap.get?_push_of_some _ e
  · exact D2.frame _ _ _ sn2 fun b hb o e => Heap.get?_push_of_some _ e
/-- the end, with the last pair handed out and standing -/
theorem end_handed {Q : Fin → Shared → Prop} (D1 : Draws prog w A i1 fp1 n1 P1 St1) (D2 : Draws prog w A i2 fp2 n2 P2 St2) (S : ZipSep2 z TI TO i1 i2 fp1 fp2)
    (hz : s.heap.get? z = some (ZO (rawInt T) b TI TO)) (hT : s.heap.get? T = some oT) (hTI : IsTupOf2 s.heap TI (.ref i1) (.ref i2)) (st1 : St1 i s.heap) (st2 : St2 i s.heap) (hle1 : i ≤ n1) (hle2 : i ≤ n2) (hend : i = n1 ∨ i = n2)
    (hE : ∀ h' tk e, (∀ c o, c ≠ z → c ≠ i1 → c ≠ i2 → s.heap.get? c = some o → h'.get? c = some o) → (∃ o, h'.get? e = some o ∧ o.cls = .type "StopIteration") → E (.ref e) { s with heap := h', toks := tk }) :
    wpAny (model prog w) A (Builtin.«zip.__next__» ⟨[.ref z], []⟩) Q E s := by
  obtain ⟨hp, g, d, tk0, os⟩ := s
  show wpAny _ _ (field (.ref z) 2 >>= _) _ _ _
  refine wpAny_bind (wpAny_field hz rfl (x := .bool false) rfl ?_)
  show wpAny _ _ (field (.ref z) 3 >>= _) _ _ _
  refine wpAny_bind (wpAny_field hz rfl (x := .ref TI) rfl ?_)
  refine wpAny_bind (wpAny_seqItems hTI rfl ?_)
  show wpAny _ _ (Builtin.SmallTypes.ownedTupleIsFree (.ref z) >>= _) _ _ _
  refine wpAny_bind (not_free hz hT fun g0 hz0 hs0 => ?_)
  have t1 : St1 i g0 := D1.over st1 hs0 S.zf1
  have t2 : St2 i g0 := D2.over st2 hs0 S.zf2
  simp only [Bool.false_eq_true, if_false]
  refine wpAny_bind ?_
  rw [← Array.forIn_toList]
  simp only [List.forIn_cons, List.forIn_nil]
  refine wpAny_bind (wpAny_bind (wpAny_holding ?_))
  show wpAny _ _ (Builtin.SmallTypes.nextOf (.ref i1) >>= _) _ _ ⟨g0, g, d, tk0, os⟩
  by_cases c1 : i < n1
  · refine wpAny_bind (D1.item i _ _ _ c1 t1 fun x1 p1 tk1 hx1 sn1 hp1 => wpAny_pure ?_)
    replace hp1 : Heap.SameBut i1 g0 p1 := hp1
    refine wpAny_pure ?_
    have hi2 : i = n2 := by omega
    refine wpAny_bind (wpAny_bind (wpAny_holding ?_))
    show wpAny _ _ (Builtin.SmallTypes.nextOf (.ref i2) >>= _) _ _ ⟨p1, g, d, tk1, os⟩
    refine wpAny_bind (D2.done ⟨p1, g, d, tk1, os⟩ _ _ (by rw [← hi2]; exact D2.over t2 hp1 S.sep1_2) fun q e hq he => ?_)
    exact hE q tk1 e (fun c o cz d1 d2 x => hq _ _ d2 (hp1.extBut _ _ d1 (hs0.extBut _ _ cz x))) he
  · have hi1 : i = n1 := by omega
    refine wpAny_bind (D1.done ⟨g0, g, d, tk0, os⟩ _ _ (by rw [← hi1]; exact t1) fun q e hq he => ?_)
    exact hE q tk0 e (fun c o cz d1 d2 x => hq _ _ d1 (hs0.extBut _ _ cz x)) he
theorem pyNext_zh {Q : Option Value → Shared → Prop} (hT : s.TypeIs (.ref z) "zip")
    (h : wpAny (model prog w) A.in1 (Builtin.«zip.__next__» ⟨[.ref z], []⟩) (fun fin s' => ∃ v, fin = .done (.ret v) ∧ Q (some v) s') (fun e s' => ∃ a, e = .ref a ∧ (∃ o, s'.heap.get? a = some o ∧ o.cls = .type "StopIteration") ∧ Q none s') s) :
    wpAny (model prog w) A (pyNext (.ref z)) Q E s := by
  unfold pyNext
  refine wpAny_bind (wpAny_attempt (wpAny_callSpecial?_slot (name := Str.ofString "__next__") hT F.slot_zip_next (wpAny_call_entry F.slot_zip_next hT F.entry_zip_next ?_ (F.args_zip_next_1 _))))
  refine wpAny_mono h (fun fin s' ⟨v, e, q⟩ => ⟨v, e, wpAny_pure q⟩) fun e s' ⟨a, e1, ⟨o, ho, hc⟩, q⟩ => ?_
  subst e1
  exact wpAny_bind (wpAny_isInstance (T := "StopIteration") (b := true) ⟨o, ho, hc⟩ isSubtype_stop (wpAny_pure q))
end
/-- two tuples zipped, the pairs put into a list -/
structure Mid (h0 h : Heap) (S z TI TO i1 i2 a1 a2 : Addr) (xs ys : List Value) (j N : Nat) : Prop where
  size : h.objs.size = N + j
  keep : ∀ c o, c ≠ S → c ≠ z → c ≠ TO → c ≠ i1 → c ≠ i2 → h0.get? c = some o → h.get? c = some o
  lst : ∃ c, h.get? S = some { cls := .type "list", dict := none, data := .seq ((List.range j).map fun k => Value.ref (N + k)).toArray c, slots := #[] }
  rows : ∀ k, k < j → IsTupOf2 h (N + k) (xs.getD k .none) (ys.getD k .none)
  ti : IsTupOf2 h TI (.ref i1) (.ref i2)
  zip : (j = 0 ∧ IsZip h z TI TO .none ∧ ∃ u v, IsTupOf2 h TO u v) ∨ (0 < j ∧ ∃ b, h.get? z = some (ZO (rawInt N) b TI TO))
  it1 : h.IsTupleIter i1 a1 j
  it2 : h.IsTupleIter i2 a2 j
  tup1 : h.IsTuple a1 xs.toArray
  tup2 : h.IsTuple a2 ys.toArray
structure Far (S z TI TO i1 i2 a1 a2 : Addr) (N : Nat) : Prop where
  sep : ZipSep2 z TI TO i1 i2 [i1, a1] [i2, a2]
  ai1 : a1 ≠ i1
  ai2 : a2 ≠ i2
  old : ∀ c ∈ [S, z, TI, TO, i1, i2, a1, a2], c < N
  sS : ∀ c ∈ [z, TI, TO, i1, i2, a1, a2], c ≠ S
  a1o : a1 ≠ z ∧ a1 ≠ TO ∧ a1 ≠ i2
  a2o : a2 ≠ z ∧ a2 ≠ TO ∧ a2 ≠ i1
section
variable {prog : Program} {w : World} {A : Around}
theorem step_mid {h0 h h' : Heap} {S z TI TO i1 i2 a1 a2 : Addr} {xs ys : List Value} {N j : Nat} (G : Far S z TI TO i1 i2 a1 a2 N) (M : Mid h0 h S z TI TO i1 i2 a1 a2 xs ys j N) (hsz : h'.objs.size = h.objs.size + 1)
    (hT : IsTupOf2 h' h.objs.size (xs.getD j .none) (ys.getD j .none)) (hk : ∀ c o, c ≠ z → c ≠ TO → c ≠ i1 → c ≠ i2 → h.get? c = some o → h'.get? c = some o) (hz : ∃ b, h'.get? z = some (ZO (rawInt N) b TI TO)) (s1 : h'.IsTupleIter i1 a1 (j + 1)) (s2 : h'.IsTupleIter i2 a2 (j + 1)) :
    Mid h0 (h'.update S (Obj.mapSeq (·.push (.ref h.objs.size)))) S z TI TO i1 i2 a1 a2 xs ys (j + 1) N := by
  have hs := M.size
  have far : ∀ c ∈ [S, z, TI, TO, i1, i2, a1, a2], ∀ k : Nat, N + k ≠ c := fun c hc k e => absurd (G.old c hc) (by rw [← e]; exact Nat.not_lt.mpr (Nat.le_add_right _ _))
  have nS : ∀ c ∈ [z, TI, TO, i1, i2, a1, a2], ∀ o, h'.get? c = some o → (h'.update S (Obj.mapSeq (·.push (.ref h.objs.size)))).get? c = some o := fun c hc o q => (Heap.get?_update_other _ _ (Ne.symm (G.sS c hc))).trans q
  obtain ⟨c0, hl⟩ := M.lst
  have hl' : h'.get? S = some { cls := .type "list", dict := none, data := .seq ((List.range j).map fun k => Value.ref (N + k)).toArray c0, slots := #[] } := hk S _ (Ne.symm (G.sS z (by simp))) (Ne.symm (G.sS TO (by simp))) (Ne.symm (G.sS i1 (by simp))) (Ne.symm (G.sS i2 (by simp))) hl
  refine ⟨by rw [Heap.size_update, hsz, hs]; omega, fun c o h1 h2 h3 h4 h5 q => (Heap.get?_update_other _ _ (Ne.symm h1)).trans (hk c o h2 h3 h4 h5 (M.keep c o h1 h2 h3 h4 h5 q)), ?_, fun k hk' => ?_, ?_, .inr ⟨by omega, ?_⟩, ?_, ?_, ?_, ?_⟩
  · have e : Obj.mapSeq (·.push (.ref h.objs.size)) ({ cls := .type "list", dict := none, data := .seq ((List.range j).map fun k => Value.ref (N + k)).toArray c0, slots := #[] } : Obj) = { cls := .type "list", dict := none, data := .seq ((List.range (j + 1)).map fun k => Value.ref (N + k)).toArray (c0 + 1), slots := #[] } := by
      rw [hs, List.range_succ]
      simp [Obj.mapSeq]
    exact ⟨c0 + 1, (Heap.get?_update_self _ hl' rfl).trans (congrArg some e)⟩
  · refine (Heap.get?_update_other _ _ (Ne.symm (far S (by simp) k))).trans ?_
    by_cases c : k < j
    · exact hk _ _ (far z (by simp) k) (far TO (by simp) k) (far i1 (by simp) k) (far i2 (by simp) k) (M.rows k c)
    · have : k = j := by omega
      subst this
      rw [← hs]; exact hT
  · exact nS TI (by simp) _ (hk TI _ G.sep.TIz G.sep.TITO G.sep.TIi1 G.sep.TIi2 M.ti)
  · obtain ⟨b, hb⟩ := hz
    exact ⟨b, nS z (by simp) _ hb⟩
  · exact s1.at fun o q => nS i1 (by simp) _ q
  · exact s2.at fun o q => nS i2 (by simp) _ q
  · exact M.tup1.at fun o q => nS a1 (by simp) _ (hk a1 _ G.a1o.1 G.a1o.2.1 G.ai1 G.a1o.2.2 q)
  · exact M.tup2.at fun o q => nS a2 (by simp) _ (hk a2 _ G.a2o.1 G.a2o.2.1 G.a2o.2.2 G.ai2 q)
theorem loop_zip {h0 : Heap} {S z TI TO i1 i2 a1 a2 : Addr} {xs ys : List Value} {N : Nat} (G : Far S z TI TO i1 i2 a1 a2 N) (hh : A.handled = none) (res : Value) (hn : min xs.length ys.length ≤ sizeLine) {R : Result → Shared → Prop} :
    ∀ (k j : Nat) (s : Shared), min xs.length ys.length - j = k → j ≤ min xs.length ys.length → Mid h0 s.heap S z TI TO i1 i2 a1 a2 xs ys j N →
      (∀ h' tk, (∃ c, h'.get? S = some { cls := .type "list", dict := none, data := .seq ((List.range (min xs.length ys.length)).map fun k => Value.ref (N + k)).toArray c, slots := #[] }) → (∀ k, k < min xs.length ys.length → IsTupOf2 h' (N + k) (xs.getD k .none) (ys.getD k .none)) →
        (∀ c o, c ≠ S → c ≠ z → c ≠ TO → c ≠ i1 → c ≠ i2 → h0.get? c = some o → h'.get? c = some o) → R (.ok (.ret res)) { s with heap := h', toks := tk }) →
      codeAny (model prog w) A (.builtin "list.extend.loop" ⟨[.ref S, .ref z, res], []⟩) R s := by
  intro k
  induction k with
  | zero =>
    intro j s hk hj M hR
    have hjn : j = min xs.length ys.length := by omega
    refine codeAny_builtin PySem.F.entry_extend_loop ?_
    rw [Around.under_plainId PySem.F.plain_extend_loop _]
    show wpAny _ A.in1 (pyNext (.ref z) >>= _) _ _ s
    have hh2 : A.in1.in1.handled = none := hh
    obtain ⟨n1, P1, S1, D1, s1, b1, c1⟩ := Z3.draw_at (prog := prog) (w := w) (A := A.in1.in1) hh2 G.ai1 M.it1 M.tup1
    obtain ⟨n2, P2, S2, D2, s2, b2, c2⟩ := Z3.draw_at (prog := prog) (w := w) (A := A.in1.in1) hh2 G.ai2 M.it2 M.tup2
    have he : j = n1 ∨ j = n2 := by
      by_cases q : xs.length ≤ j
      · exact .inl (c1 q)
      · exact .inr (c2 (by omega))
    have fin : ∀ h' tk, (∀ c o, c ≠ z → c ≠ TO → c ≠ i1 → c ≠ i2 → s.heap.get? c = some o → h'.get? c = some o) → R (.ok (.ret res)) { s with heap := h', toks := tk } := by
      intro h' tk hkk
      have far : ∀ c ∈ [S, z, TI, TO, i1, i2, a1, a2], ∀ k : Nat, N + k ≠ c := fun c hc k e => absurd (G.old c hc) (by rw [← e]; exact Nat.not_lt.mpr (Nat.le_add_right _ _))
      refine hR h' tk ?_ (fun k hk' => ?_) fun c o h1 h2 h3 h4 h5 q => hkk c o h2 h3 h4 h5 (M.keep c o h1 h2 h3 h4 h5 q)
      · obtain ⟨c0, hl⟩ := M.lst
        rw [← hjn]
        exact ⟨c0, hkk S _ (Ne.symm (G.sS z (by simp))) (Ne.symm (G.sS TO (by simp))) (Ne.symm (G.sS i1 (by simp))) (Ne.symm (G.sS i2 (by simp))) hl⟩
      · exact hkk _ _ (far z (by simp) k) (far TO (by simp) k) (far i1 (by simp) k) (far i2 (by simp) k) (M.rows k (by omega))
    rcases M.zip with ⟨j0, hz, u, v, hTO⟩ | ⟨j0, b, hz⟩
    · refine wpAny_bind (wpAny_pyNext_zipD2_end G.sep D1 D2 hz M.ti hTO s1 s2 b1 b2 he fun h' tk hkk => ?_)
      exact wpAny_pure (fin h' tk hkk)
    · refine wpAny_bind (pyNext_zh ⟨_, hz, rfl⟩ (end_handed D1 D2 G.sep hz (M.rows 0 j0) M.ti s1 s2 b1 b2 he fun h' tk e hkk he2 => ⟨e, rfl, he2, ?_⟩))
      exact wpAny_pure (fin h' tk fun c o h1 h2 h3 h4 q => hkk c o h1 h3 h4 q)
  | succ k ih =>
    intro j s hk hj M hR
    have hlt : j < min xs.length ys.length := by omega
    refine codeAny_builtin PySem.F.entry_extend_loop ?_
    rw [Around.under_plainId PySem.F.plain_extend_loop _]
    show wpAny _ A.in1 (pyNext (.ref z) >>= _) _ _ s
    have hh2 : A.in1.in1.handled = none := hh
    have D1 := Draws.tuple (prog := prog) (w := w) (A := A.in1.in1) hh2 i1 a1 G.ai1 xs.toArray
    have D2 := Draws.tuple (prog := prog) (w := w) (A := A.in1.in1) hh2 i2 a2 G.ai2 ys.toArray
    have go : ∀ (x1 x2 : Value) h' tk, xs.toArray[j]? = some x1 → ys.toArray[j]? = some x2 → IsTupOf2 h' s.heap.objs.size x1 x2 → h'.objs.size = s.heap.objs.size + 1 → (∀ c o, c ≠ z → c ≠ TO → c ≠ i1 → c ≠ i2 → s.heap.get? c = some o → h'.get? c = some o) → (∃ b, h'.get? z = some (ZO (rawInt N) b TI TO)) → h'.IsTupleIter i1 a1 (j + 1) → h'.IsTupleIter i2 a2 (j + 1) →
        wpAny (model prog w) A.in1 (updateSeq S (·.push (.ref s.heap.objs.size)) >>= fun _ => again (.builtin "list.extend.loop" ⟨[.ref S, .ref z, res], []⟩)) (fun fin s' => match fin with | .done f => R (.ok f) s' | .again c' => c'.quiet = true ∧ codeAny (model prog w) A c' R s') (fun e s' => R (.error e) s') { s with heap := h', toks := tk } := by
      intro x1 x2 h' tk q1 q2 hT hsz hkk hz s1 s2
      have e1 : xs.getD j .none = x1 := by
        have q1 : xs[j]? = some x1 := by simpa using q1
        simp [List.getD, q1]
      have e2 : ys.getD j .none = x2 := by
        have q2 : ys[j]? = some x2 := by simpa using q2
        simp [List.getD, q2]
      obtain ⟨c0, hl⟩ := M.lst
      have hl' : h'.get? S = some { cls := .type "list", dict := none, data := .seq ((List.range j).map fun k => Value.ref (N + k)).toArray c0, slots := #[] } := hkk S _ (Ne.symm (G.sS z (by simp))) (Ne.symm (G.sS TO (by simp))) (Ne.symm (G.sS i1 (by simp))) (Ne.symm (G.sS i2 (by simp))) hl
      have M2 := step_mid G M hsz (by rw [e1, e2]; exact hT) hkk hz s1 s2
      refine wpAny_bind ?_
      refine wpAny_updateSeq (s := { s with heap := h', toks := tk }) hl' rfl (wpAny_pure ⟨plainId_quiet PySem.F.plain_extend_loop _, ih (j + 1) _ (by omega) (by omega) M2 fun h'' tk' => ?_⟩) (by simp; omega) (by simp; omega)
      exact hR h'' tk'
    rcases M.zip with ⟨j0, hz, u, v, hTO⟩ | ⟨j0, b, hz⟩
    · refine wpAny_bind (wpAny_pyNext_zipD2_item G.sep D1 D2 hz M.ti hTO ⟨M.it1, M.tup1⟩ ⟨M.it2, M.tup2⟩ (by rw [List.size_toArray]; omega) (by rw [List.size_toArray]; omega) fun x1 x2 h' tk q1 q2 z' TO' s1 s2 hT hsz hkk => ?_)
      refine go x1 x2 h' tk q1 q2 hT hsz hkk ⟨false, ?_⟩ s1.1 s2.1
      have e0 : s.heap.objs.size = N := by rw [M.size, j0]; rfl
      rw [e0] at z'
      exact z'
    · refine wpAny_bind (pyNext_zh ⟨_, hz, rfl⟩ (next_handed D1 D2 G.sep hz (M.rows 0 j0) M.ti ⟨M.it1, M.tup1⟩ ⟨M.it2, M.tup2⟩ (by rw [List.size_toArray]; omega) (by rw [List.size_toArray]; omega) fun x1 x2 h' tk q1 q2 z' s1 s2 hT hsz hkk => ?_))
      exact go x1 x2 h' tk q1 q2 hT hsz (fun c o h1 h2 h3 h4 q => hkk c o h1 h3 h4 q) ⟨true, z'⟩ s1.1 s2.1
theorem zip_len : typeLookup (.type "zip") "__len__" = pure none := by rw [typeLookup_type, builtinLookup_eq_fast]; kernel_rfl
theorem zip_hint : typeLookup (.type "zip") "__length_hint__" = pure none := by rw [typeLookup_type, builtinLookup_eq_fast]; kernel_rfl
/-- list(zip(..)) where the zip stands new -/
theorem call_lz {s : Shared} {E : Value → Shared → Prop} {Q : Value → Shared → Prop} {z TI TO i1 i2 a1 a2 : Addr} {xs ys : List Value} {u v : Value} (hh : A.handled = none) (hn : min xs.length ys.length ≤ sizeLine)
    (hz : IsZip s.heap z TI TO .none) (hTI : IsTupOf2 s.heap TI (.ref i1) (.ref i2)) (hTO : IsTupOf2 s.heap TO u v) (h1 : s.heap.IsTupleIter i1 a1 0) (h2 : s.heap.IsTupleIter i2 a2 0) (t1 : s.heap.IsTuple a1 xs.toArray) (t2 : s.heap.IsTuple a2 ys.toArray)
    (G : Far s.heap.objs.size z TI TO i1 i2 a1 a2 (s.heap.objs.size + 1))
    (hQ : ∀ h' tk, (∃ c, h'.get? s.heap.objs.size = some { cls := .type "list", dict := none, data := .seq ((List.range (min xs.length ys.length)).map fun k => Value.ref (s.heap.objs.size + 1 + k)).toArray c, slots := #[] }) →
      (∀ k, k < min xs.length ys.length → IsTupOf2 h' (s.heap.objs.size + 1 + k) (xs.getD k .none) (ys.getD k .none)) → (∀ c o, c ≠ z → c ≠ TO → c ≠ i1 → c ≠ i2 → s.heap.get? c = some o → h'.get? c = some o) → Q (.ref s.heap.objs.size) { s with heap := h', toks := tk }) :
    wpAny (model prog w) A (call (.type "list") [.ref z]) Q E s := by
  obtain ⟨hp, g, d, tk, os⟩ := s
  have hnew : (hp.push { cls := .type "list", data := .seq #[] }).get? hp.objs.size = some { cls := .type "list", data := .seq #[] } := Heap.get?_push_size _ rfl
  refine callType_codes (Q₁ := fun obj s₁ => obj = .ref hp.objs.size ∧ s₁ = ⟨hp.push { cls := .type "list", data := .seq #[] }, g, d, tk, os⟩) PySem.F.called_list (PySem.F.typeCall_list_1 _) PySem.F.entry_list_init (code_list_new _ ⟨rfl, rfl⟩) fun obj s₁ hs => ?_
  obtain ⟨rfl, rfl⟩ := hs
  refine ⟨⟨_, hnew, rfl⟩, PySem.F.args_list_init_2 _ _, ?_⟩
  show wpAny _ _ (Builtin.List.listItems (.ref hp.objs.size) >>= _) _ _ _
  refine wpAny_bind ?_
  unfold Builtin.List.listItems
  refine wpAny_bind (wpAny_seqItems hnew rfl (wpAny_pure ?_))
  show wpAny _ _ (updateSeq hp.objs.size (fun _ => #[]) >>= _) _ _ _
  refine wpAny_bind (wpAny_updateSeq hnew rfl ?_)
  have l2 := Heap.get?_update_self (Obj.mapSeq fun _ => (#[] : Array Value)) hnew rfl
  refine wpAny_bind (wpAny_letGo ?_)
  have zlt : z < hp.objs.size := Heap.lt_size hz
  have up1 : ∀ c o, c ≠ hp.objs.size → hp.get? c = some o → ((hp.push { cls := .type "list", data := .seq #[] }).update hp.objs.size (Obj.mapSeq fun _ => (#[] : Array Value))).get? c = some o := fun c o hc q => (Heap.get?_update_other _ _ (Ne.symm hc)).trans (Heap.get?_push_of_some _ q)
  have hz2 := up1 z _ (Nat.ne_of_lt zlt) hz
  unfold Builtin.List.listExtendWith
  refine wpAny_bind (wpAny_typeOf (T := "zip") ⟨_, hz2, rfl⟩ ?_)
  have f1 : Builtin.List.listSameRef (.ref hp.objs.size) (.ref z) = false := by simp [Builtin.List.listSameRef, Ne.symm (Nat.ne_of_lt zlt)]
  have f2 : (Value.type "zip" == Value.type "list") = false := by decide
  have f3 : (Value.type "zip" == Value.type "tuple") = false := by decide
  simp only [f1, f2, f3, Bool.or_false, Bool.false_eq_true, if_false]
  refine wpAny_bind (wpAny_pyIter_zip hz2 ?_)
  refine wpAny_bind (wpAny_holding ?_)
  unfold Builtin.List.listLengthHint
  refine wpAny_bind (wpAny_specialOf ⟨_, hz2, rfl⟩ zip_len ?_)
  show wpAny _ _ (specialOf (Value.ref z) (Str.ofString "__length_hint__") >>= _) _ _ _
  refine wpAny_bind (wpAny_specialOf ⟨_, hz2, rfl⟩ zip_hint ?_)
  refine wpAny_pure ?_
  show wpAny _ _ (rule "list.extend.makes-room" >>= fun _ => Builtin.List.listTouch (.ref hp.objs.size) >>= fun _ => again (.builtin "list.extend.loop" ⟨[.ref hp.objs.size, .ref z, .none], []⟩)) _ _ _
  refine wpAny_bind (wpAny_rule ?_)
  refine wpAny_bind ?_
  show wpAny _ _ (updateSeq hp.objs.size (·.push .none) >>= fun _ => updateSeq hp.objs.size (·.pop)) _ _ _
  refine wpAny_bind (wpAny_updateSeq l2 rfl ?_)
  have l3 := Heap.get?_update_self (Obj.mapSeq (·.push Value.none)) l2 rfl
  refine wpAny_updateSeq (hz := by show (1:Nat) ≤ sizeLine; decide) (_hz' := by show (0:Nat) ≤ sizeLine + 1; exact Nat.zero_le _) l3 rfl ?_
  have l4 := Heap.get?_update_self (Obj.mapSeq (·.pop)) l3 rfl
  have up2 : ∀ c o, c ≠ hp.objs.size → hp.get? c = some o → ((((hp.push { cls := .type "list", data := .seq #[] }).update hp.objs.size (Obj.mapSeq fun _ => (#[] : Array Value))).update hp.objs.size (Obj.mapSeq (·.push Value.none))).update hp.objs.size (Obj.mapSeq (·.pop))).get? c = some o := fun c o hc q => by rw [Heap.get?_update_other _ _ (Ne.symm hc), Heap.get?_update_other _ _ (Ne.symm hc)]; exact up1 c o hc q
  have ne : ∀ c ∈ [z, TI, TO, i1, i2, a1, a2], c ≠ hp.objs.size := G.sS
  have hsz4 : ((((hp.push { cls := .type "list", data := .seq #[] }).update hp.objs.size (Obj.mapSeq fun _ => (#[] : Array Value))).update hp.objs.size (Obj.mapSeq (·.push Value.none))).update hp.objs.size (Obj.mapSeq (·.pop))).objs.size = hp.objs.size + 1 := by simp [Heap.size_update, Heap.size_push]
  have l5 : ∃ c, ((((hp.push { cls := .type "list", data := .seq #[] }).update hp.objs.size (Obj.mapSeq fun _ => (#[] : Array Value))).update hp.objs.size (Obj.mapSeq (·.push Value.none))).update hp.objs.size (Obj.mapSeq (·.pop))).get? hp.objs.size = some { cls := .type "list", dict := none, data := .seq #[] c, slots := #[] } := ⟨2, l4⟩
  generalize hH : ((((hp.push { cls := .type "list", data := .seq #[] }).update hp.objs.size (Obj.mapSeq fun _ => (#[] : Array Value))).update hp.objs.size (Obj.mapSeq (·.push Value.none))).update hp.objs.size (Obj.mapSeq (·.pop))) = H4 at *
  clear hH l4 l3 l2
  have M0 : Mid hp H4 hp.objs.size z TI TO i1 i2 a1 a2 xs ys 0 (hp.objs.size + 1) := ⟨hsz4, fun c o h1 _ _ _ _ q => up2 c o h1 q, l5, fun k hk => absurd hk (Nat.not_lt_zero _), up2 _ _ (ne TI (by simp)) hTI, .inl ⟨rfl, up2 _ _ (ne z (by simp)) hz, u, v, up2 _ _ (ne TO (by simp)) hTO⟩, h1.at fun o q => up2 _ _ (ne i1 (by simp)) q, h2.at fun o q => up2 _ _ (ne i2 (by simp)) q, t1.at fun o q => up2 _ _ (ne a1 (by simp)) q, t2.at fun o q => up2 _ _ (ne a2 (by simp)) q⟩
  refine wpAny_pure ⟨plainId_quiet PySem.F.plain_extend_loop _, ?_⟩
  show codeAny (model prog w) A.in1 (.builtin "list.extend.loop" ⟨[.ref hp.objs.size, .ref z, .none], []⟩) (wants (fun r s₂ => r = Value.none ∧ Q (Value.ref hp.objs.size) s₂) E) ⟨H4, g, d, tk, os⟩
  have hh2 : A.in1.handled = none := hh
  refine loop_zip (s := ⟨H4, g, d, tk, os⟩) G hh2 .none hn _ 0 rfl (Nat.zero_le _) M0 fun h' tk' hl hr hk => ?_
  exact ⟨rfl, hQ h' tk' hl hr fun c o h1 h2 h3 h4 q => hk c o (Nat.ne_of_lt (Heap.lt_size q)) h1 h2 h3 h4 q⟩
end
/-! ### the list laid -/
def putP (H : Hp) (n : Addr) (ps : List (V × V)) : Hp := fun c => match (if n ≤ c then ps[c - n]? else none) with
  | some q => some (.tup [q.1, q.2])
  | none => H c
theorem putP_low {H : Hp} {n c : Addr} {ps : List (V × V)} (h : c < n) : putP H n ps c = H c := by
  unfold putP
  rw [if_neg (Nat.not_le.mpr h)]
theorem putP_keep {H : Hp} {n : Addr} {ps : List (V × V)} (hn : ∀ k : Nat, H (n + k) = none) {c : Addr} {o : HO} (h : H c = some o) : putP H n ps c = some o := by
  by_cases q : c < n
  · rw [putP_low q]; exact h
  · obtain ⟨k, e⟩ := Nat.exists_eq_add_of_le (Nat.le_of_not_lt q)
    rw [e] at h
    rw [hn k] at h
    cases h
theorem putP_at {H : Hp} {n : Addr} {ps : List (V × V)} {k : Nat} {q : V × V} (h : ps[k]? = some q) : putP H n ps (n + k) = some (.tup [q.1, q.2]) := by
  unfold putP
  rw [if_pos (Nat.le_add_right n k), show (n + k : Nat) - n = k from Nat.add_sub_cancel_left n k, h]
theorem putP_in {H : Hp} {n c : Addr} {ps : List (V × V)} {o : HO} (h : putP H n ps c = some o) : H c = some o ∨ ∃ k q, c = n + k ∧ ps[k]? = some q ∧ o = .tup [q.1, q.2] := by
  by_cases g : n ≤ c
  · obtain ⟨k, e⟩ := Nat.exists_eq_add_of_le g
    cases hq : ps[k]? with
    | some q => rw [e, putP_at hq] at h; exact .inr ⟨k, q, e, hq, (Option.some.inj h).symm⟩
    | none =>
      unfold putP at h
      rw [if_pos g, e, show (n + k : Nat) - n = k from Nat.add_sub_cancel_left n k, hq] at h
      rw [e]
      exact .inl h
  · rw [putP_low (Nat.not_le.mp g)] at h
    exact .inl h
theorem vals_range (n : Addr) : ∀ l : List Nat, Vals (l.map fun k => V.ref (n + k)) (l.map fun k => Value.ref (n + k))
  | [] => .nil
  | _ :: l => .cons rfl (vals_range n l)
theorem layP {X : Cx} {pins : List (Addr × Obj)} {σ : L2.St} {H : Hp} {s : Shared} {h' : Heap} {tk : Nat} {p : Addr} {ps : List (V × V)} (I : Inv X pins σ H s) (hp : s.heap.objs.size ≤ p) (hz : ps.length ≤ sizeLine)
    (hk : ∀ b o, s.heap.get? b = some o → h'.get? b = some o) (hS : ∃ c, h'.get? p = some { cls := .type "list", dict := none, data := .seq ((List.range ps.length).map fun k => Value.ref (p + 1 + k)).toArray c, slots := #[] })
    (hr : ∀ k q, ps[k]? = some q → ∃ x y, RelV q.1 x ∧ RelV q.2 y ∧ IsTupOf2 h' (p + 1 + k) x y) :
    Inv X pins σ (upd (putP H (p + 1) ps) p (.lst ((List.range ps.length).map fun k => V.ref (p + 1 + k)))) { s with heap := h', toks := tk } := by
  have fr : ∀ k : Nat, H (p + 1 + k) = none := fun k => I.hok.fresh (Nat.le_trans hp (Nat.le_trans (Nat.le_succ p) (Nat.le_add_right _ _)))
  have fp : H p = none := I.hok.fresh hp
  have kp : ∀ b u, H b = some u → upd (putP H (p + 1) ps) p (.lst ((List.range ps.length).map fun k => V.ref (p + 1 + k))) b = some u := fun b u e => by
    rw [upd_ne (fun z => by rw [z, fp] at e; cases e)]
    exact putP_keep fr e
  refine I.call' (ch := []) rfl ⟨fun b o q _ _ _ => hk b o q, fun b o q _ _ _ => ⟨o.slots, hk b o q⟩, fun b o q n _ => ?_, fun b o q _ => ⟨o, hk b o q⟩, fun b xs q => kp b _ q, fun b o u q => kp b _ q, fun b ps q => ⟨#[], by rw [kp b _ q]; simp⟩⟩ (fun b u q => ?_) I.bare fun b z => by simp at z
  · have lt : b < p := Nat.lt_of_lt_of_le (Heap.lt_size q) hp
    rw [upd_ne (Nat.ne_of_lt lt), putP_low (Nat.lt_succ_of_lt lt)]
    exact n
  · by_cases hb2 : b = p
    · rw [hb2, upd_same] at q
      cases q
      obtain ⟨c, hS⟩ := hS
      rw [hb2]
      refine ⟨by rw [List.length_map, List.length_range]; exact hz, _, c, vals_range (p + 1) _, hS⟩
    · rw [upd_ne hb2] at q
      rcases putP_in q with q | ⟨k, q, e1, e2, e3⟩
      · exact (I.hok b u q).stay (fun d v _ y => hk d v y) (fun d y => kp d _ y) fun d xs y => kp d _ y
      · obtain ⟨x, y, rx, ry, ht⟩ := hr k q e2
        subst e1 e3
        exact ⟨by show 2 ≤ sizeLine; decide, [x, y], .cons rx (.cons ry .nil), ⟨_, ht, rfl, _, rfl⟩⟩
def lzH (H : Hp) (p : Addr) (ps : List (V × V)) : Hp := upd (putP H (p + 1) ps) p (.lst ((List.range ps.length).map fun k => V.ref (p + 1 + k)))
def tLZ (K : PySem.W.Frag) (ta : TA) : TE := fun σ H Q => ta σ H fun us H1 => ∃ a b xs ys, us = [.ref a, .ref b] ∧ SqT K H1 a xs ∧ SqT K H1 b ys ∧ ∀ p : Addr, (∀ k : Nat, H1 (p + k) = none) → Q (.ref p) (lzH H1 p (xs.zip ys))
theorem ne_new {c n : Nat} (h : c < n) (k : Nat) : c ≠ n + k := by omega
theorem far_new (n a b : Nat) (la : a < n) (lb : b < n) : Far (n + 5) (n + 4) (n + 2) (n + 3) n (n + 1) a b (n + 5 + 1) := by
  refine ⟨zip_sep2 (N := n) (fp1 := [a]) (fp2 := [b]) (fun q hq => by rw [List.mem_singleton.mp hq]; exact la) (fun q hq => by rw [List.mem_singleton.mp hq]; exact lb), ?_, ?_, fun c hc => ?_, fun c hc => ?_, ⟨?_, ?_, ?_⟩, ?_, ?_, ?_⟩
  · exact show a ≠ n by omega
  · exact show b ≠ n + 1 by omega
  · have e' : c = n + 5 ∨ c = n + 4 ∨ c = n + 2 ∨ c = n + 3 ∨ c = n ∨ c = n + 1 ∨ c = a ∨ c = b := by simpa using hc
    rcases e' with r | r | r | r | r | r | r | r <;> rw [r]
    · exact show n + 5 < n + 5 + 1 by omega
    · exact show n + 4 < n + 5 + 1 by omega
    · exact show n + 2 < n + 5 + 1 by omega
    · exact show n + 3 < n + 5 + 1 by omega
    · exact show n < n + 5 + 1 by omega
    · exact show n + 1 < n + 5 + 1 by omega
    · exact show a < n + 5 + 1 by omega
    · exact show b < n + 5 + 1 by omega
  · have e' : c = n + 4 ∨ c = n + 2 ∨ c = n + 3 ∨ c = n ∨ c = n + 1 ∨ c = a ∨ c = b := by simpa using hc
    rcases e' with r | r | r | r | r | r | r <;> rw [r]
    · exact show n + 4 ≠ n + 5 by omega
    · exact show n + 2 ≠ n + 5 by omega
    · exact show n + 3 ≠ n + 5 by omega
    · exact show n ≠ n + 5 by omega
    · exact show n + 1 ≠ n + 5 by omega
    · exact show a ≠ n + 5 by omega
    · exact show b ≠ n + 5 by omega
  · exact show a ≠ n + 4 by omega
  · exact show a ≠ n + 3 by omega
  · exact show a ≠ n + 1 by omega
  · exact show b ≠ n + 4 by omega
  · exact show b ≠ n + 3 by omega
  · exact show b ≠ n by omega
theorem pe_lz {X : Cx} {e e2 : Expr} {ta : TA} {p p2 pos pos2 : Pos} (hc : X.calm = true) (hg : Gl X "list") (hm : X.mg "list" = none) (hv : bootBuiltins "list" = some (.type "list")) (hg2 : Gl X "zip") (hm2 : X.mg "zip" = none) (ha : PA X [e, e2] ta)
    (hs2 : starEach [e, e2] X.env = (false, eval e X.env) :: starEach [e2] X.env := by rfl) (hpl2 : (backTo pos2 (starEach [e2] X.env)).any (·.1) = false := by rfl)
    (hs : starEach [.Call (.Name "zip" p2) [e, e2] [] pos2] X.env = (false, eval (.Call (.Name "zip" p2) [e, e2] [] pos2) X.env) :: starEach [] X.env := by rfl) :
    PE X (.Call (.Name "list" p) [.Call (.Name "zip" p2) [e, e2] [] pos2] [] pos) (tLZ X.K ta) := by
  refine ⟨fun pins s σ H Q I h => ?_⟩
  refine wpAny_Call_Name_kw (ld_blt I hg hm hv ?_)
  refine PyProof.Rows.callWith_type1 ?_ hs rfl
  rw [hs]
  show wpAny _ _ (spliced ((false, eval (.Call (.Name "zip" p2) [e, e2] [] pos2) X.env) :: backTo pos (starEach [] X.env))) _ _ s
  refine Calls.spliced_cons ?_
  refine Call_ (ld_blt I hg2 hm2 PyProof.Rows.boot_zip (PyProof.Rows.callWith_type1 (thn (ha.run pos2 pins s σ H _ I h) fun us s1 ⟨vs, H1, I1, r1, q1⟩ => ?_) hs2 hpl2))
  obtain ⟨a, b, xs, ys, ex, hqx, hqy, q⟩ := q1
  subst ex
  cases r1 with
  | cons ra rr =>
  cases rr with
  | cons rb rr =>
  cases rr
  cases ra
  cases rb
  obtain ⟨its, rv, p1, l1⟩ := I1.tuple hqx
  obtain ⟨its2, rv2, p2, l2⟩ := I1.tuple hqy
  obtain ⟨o1, ho1, _⟩ := id p1
  obtain ⟨o2, ho2, _⟩ := id p2
  have la : a < s1.heap.objs.size := Heap.lt_size ho1
  have lb : b < s1.heap.objs.size := Heap.lt_size ho2
  refine zip_begins2 (begins_tuple a its.toArray) (begins_tuple b its2.toArray) p1 p2 fun h' hz hTI hTO h1 h2 hsz hk => ?_
  refine Calls.spliced_nil ?_
  have lx := rv.length
  have ly := rv2.length
  have G := far_new s1.heap.objs.size a b la lb
  have t1 : h'.IsTuple a its.toArray := (show s1.heap.IsTuple a its.toArray from p1).at fun o e => hk a o e
  have t2 : h'.IsTuple b its2.toArray := (show s1.heap.IsTuple b its2.toArray from p2).at fun o e => hk b o e
  rw [← hsz] at G
  refine call_lz (s := { s1 with heap := h' }) (I1.ok.hd hc) (by omega) hz hTI hTO ⟨_, h1, rfl, rfl⟩ ⟨_, h2, rfl, rfl⟩ t1 t2 G fun h'' tk hS hr hk2 => ?_
  have hS : ∃ c, h''.get? h'.objs.size = some { cls := .type "list", dict := none, data := .seq ((List.range (min its.length its2.length)).map fun k => Value.ref (h'.objs.size + 1 + k)).toArray c, slots := #[] } := hS
  have hr : ∀ k, k < min its.length its2.length → IsTupOf2 h'' (h'.objs.size + 1 + k) (its.getD k .none) (its2.getD k .none) := hr
  have hk2 : ∀ c o, c ≠ s1.heap.objs.size + 4 → c ≠ s1.heap.objs.size + 3 → c ≠ s1.heap.objs.size → c ≠ s1.heap.objs.size + 1 → h'.get? c = some o → h''.get? c = some o := hk2
  have hsz5 : s1.heap.objs.size ≤ h'.objs.size := by rw [hsz]; exact Nat.le_add_right _ _
  have len : (xs.zip ys).length = min its.length its2.length := by rw [List.length_zip]; omega
  refine ⟨.ref h'.objs.size, lzH H1 h'.objs.size (xs.zip ys), ?_, rfl, q _ fun k => I1.hok.fresh (Nat.le_trans hsz5 (Nat.le_add_right _ _))⟩
  refine layP (s := s1) I1 hsz5 (by rw [len]; omega) (fun c o e => ?_) (by rw [len]; exact hS) fun k qq e => ?_
  · have lt := Heap.lt_size e
    exact hk2 c o (ne_new lt 4) (ne_new lt 3) (ne_new lt 0) (ne_new lt 1) (hk c o e)
  · obtain ⟨qx, qy⟩ := qq
    rw [List.getElem?_zip_eq_some] at e
    obtain ⟨x, ex, rx⟩ := rv.get e.1
    obtain ⟨y, ey, ry⟩ := rv2.get e.2
    have kl : k < min its.length its2.length := Nat.lt_min.mpr ⟨(List.getElem?_eq_some_iff.mp ex).1, (List.getElem?_eq_some_iff.mp ey).1⟩
    have := hr k kl
    rw [show its.getD k .none = x by simp [List.getD, ex], show its2.getD k .none = y by simp [List.getD, ey]] at this
    exact ⟨x, y, rx, ry, this⟩
end Zh
/-! ### as it is walked -/
def lzW (v w : Val) : M (List D) := fun S => match v, w with
  | .d (.tup xs), .d (.tup ys) => .ok (zipD xs ys) S
  | _, _ => .bad
def nLZ (g : Env' → M (List Val)) : Env' → M (List D) := fun ρ => M.bind (g ρ) fun vs => arg2 vs lzW
theorem zipD_at2 {xs ys : List D} {i : Nat} {d : D} (e : (zipD xs ys)[i]? = some d) : ∃ x y, xs[i]? = some x ∧ ys[i]? = some y ∧ d = .tup [x, y] := by
  unfold zipD at e
  rw [List.getElem?_zipWith] at e
  split at e
  · rename_i x y e1 e2
    exact ⟨x, y, e1, e2, (Option.some.inj e).symm⟩
  · cases e
theorem grow_keep {κ : Ks} {H H' : Hp} (h : ∀ a o, H a = some o → H' a = some o) : Grow κ H κ H' :=
  ⟨⟨[], by simp⟩, fun _ m => .inl m, fun _ m => m, fun a o _ q => h a o q, fun _ q n => absurd q n, fun a o q => ⟨o, h a o q⟩, fun a xs q => h a _ q, fun a o u q => h a _ q⟩
theorem repL_of_get {C : Ctx} {κ : Ks} {H : Hp} : ∀ {xs : List D} {vs : List V}, xs.length = vs.length → (∀ (i : Nat) (x : D) (v : V), xs[i]? = some x → vs[i]? = some v → Rep C κ H x v) → RepL C κ H xs vs
  | [], [], _, _ => .nil
  | _ :: _, [], h, _ => by cases h
  | [], _ :: _, h, _ => by cases h
  | x :: xs, v :: vs, h, r => .cons (r 0 x v rfl rfl) (repL_of_get (Nat.succ.inj h) fun i y w e1 e2 => r (i + 1) y w e1 e2)
theorem repL_lz {C : Ctx} {κ : Ks} {H : Hp} {p : Addr} {xs ys : List D} {vs ws : List V} (fr : ∀ k : Nat, H (p + k) = none) (rx : RepL C κ H xs vs) (ry : RepL C κ H ys ws) :
    RepL C κ (Zh.putP H (p + 1) (vs.zip ws)) (zipD xs ys) ((List.range (vs.zip ws).length).map fun k => V.ref (p + 1 + k)) := by
  have fr2 : ∀ k : Nat, H (p + 1 + k) = none := fun k => by rw [show (p + 1 + k : Nat) = p + (1 + k) from Nat.add_assoc p 1 k]; exact fr (1 + k)
  refine repL_of_get ?_ fun i d v e1 e2 => ?_
  · unfold zipD
    rw [List.length_zipWith, List.length_map, List.length_range, List.length_zip, rx.length, ry.length]
  · obtain ⟨x, y, q1, q2, rfl⟩ := zipD_at2 e1
    obtain ⟨u1, g1, k1⟩ := rx.get q1
    obtain ⟨u2, g2, k2⟩ := ry.get q2
    have hv : v = V.ref (p + 1 + i) := by
      rw [List.getElem?_map] at e2
      obtain ⟨j, h1, h2⟩ := Option.map_eq_some_iff.mp e2
      have := List.getElem?_eq_some_iff.mp h1
      obtain ⟨a1, a2⟩ := this
      rw [List.getElem_range] at a2
      rw [← h2, ← a2]
    subst hv
    have gr : Grow κ H κ (Zh.putP H (p + 1) (vs.zip ws)) := grow_keep fun a o h => Zh.putP_keep fr2 h
    exact Rep.tup_iff.mpr ⟨_, _, rfl, Zh.putP_at (q := (u1, u2)) (by rw [List.getElem?_zip_eq_some]; exact ⟨g1, g2⟩), .cons (k1.grow gr) (.cons (k2.grow gr) .nil)⟩
section
variable {X : Cx} {W : WX} {e e2 : Expr} {g : Env' → M (List Val)} {p p2 pos pos2 : Pos}
theorem dn_lz (hc : X.calm = true) (hg : Gl X "list") (hm : X.mg "list" = none) (hg2 : Gl X "zip") (hm2 : X.mg "zip" = none) (ha : DA X W [e, e2] g) (hv : bootBuiltins "list" = some (.type "list") := by rfl)
    (hs2 : starEach [e, e2] X.env = (false, eval e X.env) :: starEach [e2] X.env := by rfl) (hpl2 : (backTo pos2 (starEach [e2] X.env)).any (·.1) = false := by rfl)
    (hs : starEach [.Call (.Name "zip" p2) [e, e2] [] pos2] X.env = (false, eval (.Call (.Name "zip" p2) [e, e2] [] pos2) X.env) :: starEach [] X.env := by rfl) :
    DN X W (.Call (.Name "list" p) [.Call (.Name "zip" p2) [e, e2] [] pos2] [] pos) (nLZ g) := pe_imp (Zh.pe_lz hc hg hm hv hg2 hm2 ha hs2 hpl2 hs) fun σ H Q h => by
  obtain ⟨κ, ρ, S, s, p⟩ := h
  obtain ⟨k1, r1, s1, sm, q⟩ := EvN.bind (rel1 := relVs (cx X)) s p
  refine ⟨k1, r1, s1, sm, q.mono ?_⟩
  rintro us H1 ⟨κ1, S1, vs, g1, sm1, rx, p1⟩
  unfold arg2 at p1
  split at p1
  · rename_i v w
    obtain ⟨u, r0, e0, ru, u2, r2, e2, ru2, rnil⟩ := rx
    have rnil : r2 = [] := rnil
    subst rnil
    subst e2
    subst e0
    unfold lzW at p1
    split at p1
    · rename_i xs ys
      obtain ⟨a, ws, ea, hl, ra⟩ := Rep.tup_iff.mp (show Rep (cx X) κ1 H1 (.tup xs) u from ru)
      obtain ⟨b, ws2, eb, hl2, rb⟩ := Rep.tup_iff.mp (show Rep (cx X) κ1 H1 (.tup ys) u2 from ru2)
      subst ea eb
      refine ⟨a, b, ws, ws2, rfl, .of hl, .of hl2, fun p fr => ?_⟩
      have fr2 : ∀ k : Nat, H1 (p + 1 + k) = none := fun k => by rw [show (p + 1 + k : Nat) = p + (1 + k) from Nat.add_assoc p 1 k]; exact fr (1 + k)
      have kp : ∀ a o, H1 a = some o → Zh.putP H1 (p + 1) (ws.zip ws2) a = some o := fun a o h => Zh.putP_keep fr2 h
      have gr : Grow κ1 H1 κ1 (Zh.putP H1 (p + 1) (ws.zip ws2)) := grow_keep kp
      exact postN_laid gr (sm1.cells.keep gr fun a m => by obtain ⟨o, h⟩ := sm1.cells.has m; rw [kp a o h, h]) (repL_lz fr ra rb) ((Zh.putP_low (Nat.lt_succ_self p)).trans (fr 0)) p1
    · exact p1.elim
  · exact p1.elim
end
end Dn

/-! Dn20: zip of a tuple and a list, gone through. -/
namespace Dn
open PySem PySem.Spec PyProof.Rows L2
namespace Zm
/-- what a list's iterator still draws, at its end too -/
theorem draw_at {prog : Program} {w : World} {A : Around} {s : Shared} {it a : Addr} {its : List Value} {i : Nat} (hh : A.handled = none) (hai : a ≠ it) (hit : s.heap.IsListIter it a i) (p : s.heap.IsList a its.toArray) :
    ∃ (n : Nat) (P : Nat → Value → Prop) (St : Nat → Heap → Prop), Draws prog w A it [it, a] n P St ∧ St i s.heap ∧ i ≤ n ∧ (its.length ≤ i → i = n) := by
  have D0 := Draws.list (prog := prog) (w := w) (A := A) hh it a hai its.toArray
  by_cases c : its.length ≤ i
  · exact ⟨i, fun _ _ => False, fun k h => k = i ∧ h.IsListIter it a i ∧ h.IsList a its.toArray, ⟨fun k h st => D0.live i h st.2, fun k h h' st hk => ⟨st.1, D0.frame i h h' st.2 hk⟩, fun k s Q E hlt st => absurd st.1 (Nat.ne_of_lt hlt), fun s Q E st hE => wpAny_nextOf_list_end hh st.2.1 st.2.2 (by simp; omega) hE⟩, ⟨rfl, hit, p⟩, Nat.le_refl _, fun _ => rfl⟩
  · exact ⟨its.toArray.size, _, _, D0, ⟨hit, p⟩, by rw [List.size_toArray]; omega, fun z => absurd z c⟩
/-- the tuple at a, the list at b, the items in new pairs -/
def ItM (K : PySem.W.Frag) (a b : Addr) : It :=
  ⟨fun i H => ∃ (xs ys : List V) (x y : V), SqT K H a xs ∧ SqL K H b ys ∧ xs[i]? = some x ∧ ys[i]? = some y,
    fun i H v H' => ∃ T x y, v = .ref T ∧ H T = none ∧ H' = upd H T (.tup [x, y]) ∧ (∀ xs, SqT K H a xs → xs[i]? = some x) ∧ ∀ ys, SqL K H b ys → ys[i]? = some y,
    fun i H => ∃ xs ys : List V, SqT K H a xs ∧ SqL K H b ys ∧ (xs.length ≤ i ∨ ys.length ≤ i)⟩
structure Apart (z TI TO i1 i2 a b : Addr) : Prop where
  sep : ZipSep2 z TI TO i1 i2 [i1, a] [i2, b]
  zi1 : z ≠ i1
  zi2 : z ≠ i2
  ai : a ≠ i1
  bi : b ≠ i2
theorem turnM {P : Program} {w : World} {K : PySem.W.Frag} {elts : List Expr} {kk : Nat} {tpos : Pos} {a b z TI TO i1 i2 : Addr} (D : Apart z TI TO i1 i2 a b) :
    Turn P w K (.Tuple elts kk tpos) (ItM K a b) [z, TI, TO, i1, i2] z (fun i h => IsZip h z TI TO .none ∧ IsTupOf2 h TI (.ref i1) (.ref i2) ∧ (∃ x y, IsTupOf2 h TO x y) ∧ h.IsTupleIter i1 a i ∧ h.IsListIter i2 b i) where
  mem := by simp
  obj := fun i h st q hq => by
    obtain ⟨hz, hTI, ⟨x, y, hTO⟩, ⟨o1, e1, _, d1⟩, ⟨o2, e2, _, d2⟩⟩ := st
    have e' : q = z ∨ q = TI ∨ q = TO ∨ q = i1 ∨ q = i2 := by simpa using hq
    rcases e' with r | r | r | r | r
    · rw [r]; exact ⟨_, hz, fun v q => nomatch q⟩
    · rw [r]; exact ⟨_, hTI, fun v q => nomatch q⟩
    · rw [r]; exact ⟨_, hTO, fun v q => nomatch q⟩
    · rw [r]; exact ⟨o1, e1, fun v q => by rw [d1] at q; cases q⟩
    · rw [r]; exact ⟨o2, e2, fun v q => by rw [d2] at q; cases q⟩
  keep := fun i h h' st k => by
    obtain ⟨hz, hTI, ⟨x, y, hTO⟩, h1, h2⟩ := st
    exact ⟨k z (by simp) _ hz, k TI (by simp) _ hTI, ⟨x, y, k TO (by simp) _ hTO⟩, h1.at fun o q => k i1 (by simp) o q, h2.at fun o q => k i2 (by simp) o q⟩
  item := by
    intro X hP hw hK hc i pins s σ H E I hf st hg
    subst hP hw hK
    obtain ⟨hz, hTI, ⟨x0, y0, hTO⟩, h1, h2⟩ := st
    obtain ⟨xs, ys, x, y, hqx, hqy, hx, hy⟩ := hg
    obtain ⟨its, rv, p, _⟩ := I.tuple hqx
    obtain ⟨its2, rv2, p2, _⟩ := I.list hqy
    obtain ⟨u, hu, ru⟩ := rv.get hx
    obtain ⟨u2, hu2, ru2⟩ := rv2.get hy
    have hzl : z < s.heap.objs.size := Heap.lt_size hz
    have hd := I.ok.hd hc
    have D1 := Draws.tuple (prog := X.prog) (w := X.w) (A := X.A.in1) hd i1 a D.ai its.toArray
    have D2 := Draws.list (prog := X.prog) (w := X.w) (A := X.A.in1) hd i2 b D.bi its2.toArray
    refine wpAny_pyNext_zipD2_item D.sep D1 D2 hz hTI hTO ⟨h1, p⟩ ⟨h2, p2.isList⟩ (by rw [List.size_toArray]; exact (List.getElem?_eq_some_iff.mp hu).1) (by rw [List.size_toArray]; exact (List.getElem?_eq_some_iff.mp hu2).1) fun w1 w2 h' tk q1 q2 z' TO' s1 s2 hT hsz hk => ?_
    have e1 : w1 = u := by have h2 : its[i]? = some w1 := by simpa using q1
                           rw [hu] at h2; exact (Option.some.inj h2).symm
    have e2 : w2 = u2 := by have h2 : its2[i]? = some w2 := by simpa using q2
                            rw [hu2] at h2; exact (Option.some.inj h2).symm
    subst e1 e2
    refine ⟨_, rfl, wpAny_letOwnedTupleGo_zip (s := { s with heap := h', toks := tk }) z' fun h'' z'' sb => ?_⟩
    have hT2 : h''.get? s.heap.objs.size = some { cls := .type "tuple", data := .seq #[w1, w2] } := (sb.2 _ (Nat.ne_of_gt hzl)).trans hT
    have new : ObjOk X.prog X.w (upd H s.heap.objs.size (.tup [x, y])) h'' s.heap.objs.size (.tup [x, y]) :=
      ⟨by show 2 ≤ sizeLine; decide, [w1, w2], .cons ru (.cons ru2 .nil), ⟨_, hT2, rfl, _, rfl⟩⟩
    have I1 : Inv X pins σ (upd H s.heap.objs.size (.tup [x, y])) { s with heap := h'', toks := tk } :=
      I.turnedNew (ch := [z, TI, TO, i1, i2]) (fun q o hb e => (sb.2 q (fun r => hb (by simp [r]))).trans (hk q o (fun r => hb (by simp [r])) (fun r => hb (by simp [r])) (fun r => hb (by simp [r])) (fun r => hb (by simp [r])) e)) hf (Nat.le_refl _) new
    refine ⟨.ref s.heap.objs.size, _, I1, rfl, ⟨_, x, y, rfl, I.hok.fresh (Nat.le_refl _), rfl, fun l hl => by rw [I.tuple_inj hl hqx]; exact hx, fun l hl => by rw [I.list_inj hl hqy]; exact hy⟩, ⟨z'', ?_, ⟨w1, w2, ?_⟩, ?_, ?_⟩, fun q hqm => ?_⟩
    · exact (sb.2 _ D.sep.TIz).trans (hk _ _ D.sep.TIz D.sep.TITO D.sep.TIi1 D.sep.TIi2 hTI)
    · exact (sb.2 _ D.sep.TOz).trans TO'
    · exact s1.1.at fun o q => (sb.2 _ (Ne.symm D.zi1)).trans q
    · exact s2.1.at fun o q => (sb.2 _ (Ne.symm D.zi2)).trans q
    · have hlt : q < s.heap.objs.size := by
        have e' : q = z ∨ q = TI ∨ q = TO ∨ q = i1 ∨ q = i2 := by simpa using hqm
        rcases e' with r | r | r | r | r
        · rw [r]; exact hzl
        · rw [r]; exact Heap.lt_size hTI
        · rw [r]; exact Heap.lt_size hTO
        · rw [r]; obtain ⟨_, e1, _⟩ := h1; exact Heap.lt_size e1
        · rw [r]; obtain ⟨_, e2, _⟩ := h2; exact Heap.lt_size e2
      rw [upd_ne (Nat.ne_of_lt hlt)]
      exact (hf q hqm).1
  done := by
    intro X hP hw hK hc i pins s σ H E I hf st hg
    subst hP hw hK
    obtain ⟨hz, hTI, ⟨x0, y0, hTO⟩, h1, h2⟩ := st
    obtain ⟨xs, ys, hqx, hqy, hend⟩ := hg
    obtain ⟨its, rv, p, _⟩ := I.tuple hqx
    obtain ⟨its2, rv2, p2, _⟩ := I.list hqy
    have l1 := rv.length
    have l2 := rv2.length
    have hd := I.ok.hd hc
    obtain ⟨n1, P1, S1, D1, s1, b1, c1⟩ := Z3.draw_at (prog := X.prog) (w := X.w) (A := X.A.in1) hd D.ai h1 (show s.heap.IsTuple a its.toArray from p)
    obtain ⟨n2, P2, S2, D2, s2, b2, c2⟩ := draw_at (prog := X.prog) (w := X.w) (A := X.A.in1) hd D.bi h2 p2.isList
    have he : i = n1 ∨ i = n2 := by
      rcases hend with q | q
      · exact .inl (c1 (by omega))
      · exact .inr (c2 (by omega))
    exact wpAny_pyNext_zipD2_end D.sep D1 D2 hz hTI hTO s1 s2 b1 b2 he fun h' tk hk => ⟨rfl, I.turnedL (t' := tk) (ch := [z, TI, TO, i1, i2]) (fun q o hb e =>
      hk q o (fun r => hb (by simp [r])) (fun r => hb (by simp [r])) (fun r => hb (by simp [r])) (fun r => hb (by simp [r])) e) hf⟩
  self := fun A i s Q E st h => wpAny_pyIter_zip st.1 h
def iM (K : PySem.W.Frag) (ta : TA) : TI := fun σ H R => ta σ H fun us H1 => ∃ a b xs ys, us = [.ref a, .ref b] ∧ SqT K H1 a xs ∧ SqL K H1 b ys ∧ R (ItM K a b) H1
theorem pi_zipM {X : Cx} {e e2 : Expr} {ta : TA} {p pos tpos : Pos} {elts : List Expr} {kk : Nat} (hg : Gl X "zip") (hm : X.mg "zip" = none) (ha : PA X [e, e2] ta)
    (hs : starEach [e, e2] X.env = (false, eval e X.env) :: starEach [e2] X.env := by rfl) (hpl : (backTo pos (starEach [e2] X.env)).any (·.1) = false := by rfl) :
    PI X (.Tuple elts kk tpos) (.Call (.Name "zip" p) [e, e2] [] pos) (iM X.K ta) := by
  refine ⟨fun pins s σ H R I h => ?_⟩
  refine Call_ (ld_blt I hg hm PyProof.Rows.boot_zip (PyProof.Rows.callWith_type1 (thn (ha.run pos pins s σ H _ I h) fun us s1 ⟨vs, H1, I1, r1, q1⟩ => ?_) hs hpl))
  obtain ⟨a, b, xs, ys, ex, hqx, hqy, q⟩ := q1
  subst ex
  cases r1 with
  | cons ra rr =>
  cases rr with
  | cons rb rr =>
  cases rr
  cases ra
  cases rb
  obtain ⟨its, rv, p1, _⟩ := I1.tuple hqx
  obtain ⟨its2, rv2, p2, _⟩ := I1.list hqy
  obtain ⟨o1, ho1, _⟩ := id p1
  obtain ⟨o2, ho2, _⟩ := id p2.isList
  have la : a < s1.heap.objs.size := Heap.lt_size ho1
  have lb : b < s1.heap.objs.size := Heap.lt_size ho2
  refine zip_begins2 (begins_tuple a its.toArray) (begins_list b its2.toArray) p1 p2.isList fun h' hz hTI hTO h1 h2 hsz hk => wpAny_pyIter_zip hz ?_
  have I2 : Inv X pins σ H1 { s1 with heap := h' } := I1.kept (t' := s1.toks) hk
  have F := Zh.far_new s1.heap.objs.size a b la lb
  have ap : Apart (s1.heap.objs.size + 4) (s1.heap.objs.size + 2) (s1.heap.objs.size + 3) s1.heap.objs.size (s1.heap.objs.size + 1) a b :=
    ⟨F.sep, Ne.symm (Zh.ne_new (Nat.lt_succ_of_lt (Nat.lt_succ_of_lt (Nat.lt_succ_of_lt (Nat.lt_succ_self _)))) 0), show (s1.heap.objs.size + 4 : Nat) ≠ s1.heap.objs.size + 1 by omega, F.ai1, F.ai2⟩
  refine ⟨s1.heap.objs.size + 4, [s1.heap.objs.size + 4, s1.heap.objs.size + 2, s1.heap.objs.size + 3, s1.heap.objs.size, s1.heap.objs.size + 1], _, _, H1, rfl, I2, turnM ap, ⟨hz, hTI, ⟨_, _, hTO⟩, ⟨_, h1, rfl, rfl⟩, ⟨_, h2, rfl, rfl⟩⟩, fun q hq => ?_, ?_⟩
  · have e' : q = s1.heap.objs.size + 4 ∨ q = s1.heap.objs.size + 2 ∨ q = s1.heap.objs.size + 3 ∨ q = s1.heap.objs.size ∨ q = s1.heap.objs.size + 1 := by simpa using hq
    have hle : s1.heap.objs.size ≤ q := by
      rcases e' with r | r | r | r | r
      · rw [r]; exact Nat.le_add_right _ _
      · rw [r]; exact Nat.le_add_right _ _
      · rw [r]; exact Nat.le_add_right _ _
      · rw [r]; exact Nat.le_refl _
      · rw [r]; exact Nat.le_add_right _ _
    exact I1.fpOk hle (I1.hok.fresh hle)
  · assumption
end Zm
/-! ### as it is walked -/
def zmW (v w : Val) : M Walk := fun S => match rd v S, rd w S with
  | some x, some y => match itemsD x, itemsD y with
    | some xs, some ys => if isTp x && isSq y then .ok ⟨zipD xs ys, guardOf v xs ++ guardOf w ys⟩ S else .bad
    | _, _ => .bad
  | _, _ => .bad
def dZipM (g : Env' → M (List Val)) : Env' → M Walk := fun ρ => M.bind (g ρ) fun vs => arg2 vs zmW
theorem wd_zipM {C : Ctx} {κ : Ks} {H : Hp} {a b : Addr} {xs ys : List D} {gd gd2 : List (Nat × List D)} {K : PySem.W.Frag}
    (h : ∀ κ2 H2 S2, Grow κ H κ2 H2 → Cells C κ2 H2 S2 → (∀ p ∈ gd, S2[p.1]? = some (.lst p.2)) → ∃ vs, SqT K H2 a vs ∧ RepL C κ2 H2 xs vs)
    (h2 : ∀ κ2 H2 S2, Grow κ H κ2 H2 → Cells C κ2 H2 S2 → (∀ p ∈ gd2, S2[p.1]? = some (.lst p.2)) → ∃ vs, SqL K H2 b vs ∧ RepL C κ2 H2 ys vs) : WalkD C κ H (Zm.ItM K a b) ⟨zipD xs ys, gd ++ gd2⟩ where
  go := fun i κ2 H2 S2 hi g c lv => by
    obtain ⟨vs, hs, r⟩ := h κ2 H2 S2 g c fun p m => lv p (List.mem_append_left _ m)
    obtain ⟨us, hu, r'⟩ := h2 κ2 H2 S2 g c fun p m => lv p (List.mem_append_right _ m)
    obtain ⟨x, y, e1, e2, _⟩ := zipD_get (List.getElem?_eq_getElem (show i < (zipD xs ys).length from hi))
    obtain ⟨v, e, _⟩ := r.get e1
    obtain ⟨v', e', _⟩ := r'.get e2
    exact ⟨vs, us, v, v', hs, hu, e, e'⟩
  yld := fun i κ2 H2 S2 x H3 d e g c lv y => by
    obtain ⟨vs, hs, r⟩ := h κ2 H2 S2 g c fun p m => lv p (List.mem_append_left _ m)
    obtain ⟨us, hu, r'⟩ := h2 κ2 H2 S2 g c fun p m => lv p (List.mem_append_right _ m)
    obtain ⟨T, v, v', rfl, hT, rfl, y1, y2⟩ := y
    obtain ⟨d1, d2, e1, e2, rfl⟩ := zipD_get (show (zipD xs ys)[i]? = some d from e)
    obtain ⟨v1, q1, rv⟩ := r.get e1
    obtain ⟨v2, q2, rv'⟩ := r'.get e2
    rw [y1 vs hs] at q1
    cases q1
    rw [y2 us hu] at q2
    cases q2
    exact ⟨.laid hT, c.laid hT, Rep.tup_iff.mpr ⟨T, _, rfl, upd_same, .cons (rv.grow (.laid hT)) (.cons (rv'.grow (.laid hT)) .nil)⟩⟩
  stop := fun κ2 H2 S2 g c lv => by
    obtain ⟨vs, hs, r⟩ := h κ2 H2 S2 g c fun p m => lv p (List.mem_append_left _ m)
    obtain ⟨us, hu, r'⟩ := h2 κ2 H2 S2 g c fun p m => lv p (List.mem_append_right _ m)
    refine ⟨vs, us, hs, hu, ?_⟩
    show vs.length ≤ (zipD xs ys).length ∨ us.length ≤ (zipD xs ys).length
    unfold zipD
    rw [List.length_zipWith, r.length, r'.length]
    omega
theorem di_zipM {X : Cx} {W : WX} {e e2 : Expr} {g : Env' → M (List Val)} {p pos tpos : Pos} {elts : List Expr} {kk : Nat} (hg : Gl X "zip") (hm : X.mg "zip" = none) (ha : DA X W [e, e2] g)
    (hs : starEach [e, e2] X.env = (false, eval e X.env) :: starEach [e2] X.env := by rfl) (hpl : (backTo pos (starEach [e2] X.env)).any (·.1) = false := by rfl) :
    DI X W (.Tuple elts kk tpos) (.Call (.Name "zip" p) [e, e2] [] pos) (dZipM g) := pi_imp (Zm.pi_zipM hg hm ha hs hpl) fun σ H R h => by
  obtain ⟨κ, ρ, S, s, p⟩ := h
  obtain ⟨k1, r1, s1, sm, q⟩ := EvI.bind (rel1 := relVs (cx X)) s p
  refine ⟨k1, r1, s1, sm, q.mono ?_⟩
  rintro us H1 ⟨κ1, S1, vs, g1, sm1, rx, p1⟩
  match vs, rx, p1 with
  | [v, w], ⟨u, r0, e0, ru, u2, r2, e2', ru2, rnil⟩, p1 =>
    rw [show r2 = [] from rnil] at e2'
    subst e2' e0
    have p1 : PostI (cx X) κ1 H1 (zmW v w S1) R _ := p1
    unfold zmW at p1
    split at p1
    · rename_i x y ex ey
      split at p1
      · rename_i xs ys exs eys
        split at p1
        · rename_i hb
          have hb := Bool.and_eq_true _ _ ▸ hb
          rcases seq_cases sm1.cells ru ex exs with ⟨a, ⟨e1, t1⟩, ⟨zs, l1, _⟩, h⟩ | ⟨a, ⟨e1, t1⟩, ⟨zs, l1, _⟩, h⟩ | ⟨z, ⟨e1, t1⟩, e2⟩
          · rw [sq_tp t1] at hb; exact absurd hb.1 Bool.false_ne_true
          · rcases seq_cases sm1.cells ru2 ey eys with ⟨b, ⟨e1', t2⟩, ⟨zs', l1', _⟩, h'⟩ | ⟨b, ⟨e1', t2⟩, ⟨zs', l1', _⟩, h'⟩ | ⟨z, ⟨e1', t2⟩, e2⟩
            · subst e1 e1'
              exact ⟨a, b, zs, zs', rfl, l1, l1', p1 _ κ1 H1 (.refl _ _) sm1.cells (wd_zipM h h')⟩
            · rw [tp_sq t2] at hb; exact absurd hb.2 Bool.false_ne_true
            · rw [t2] at hb; exact absurd hb.2 Bool.false_ne_true
          · rw [t1] at hb; exact absurd hb.1 Bool.false_ne_true
        · exact p1.elim
      · exact p1.elim
    · exact p1.elim
/-! ### a list turned round, new -/
def rvA (v : Val) : M (List D) := fun S => match rd v S with
  | some x => match itemsD x with
    | some xs => if isSq x then .ok xs.reverse S else .bad
    | none => .bad
  | none => .bad
def nRevL (f : Env' → M Val) : Env' → M (List D) := fun ρ => M.bind (f ρ) rvA
theorem dn_revL {X : Cx} {W : WX} {e : Expr} {fe : Env' → M Val} {k : Nat} {p1 p2 p3 pos : Pos} (he : DE X W e fe) : DN X W (.Subscript e (.Slice none none (some (.UnaryOp .USub (.Constant (.int 1) k p1) p2)) p3) pos) (nRevL fe) := pe_imp (pe_revL he) fun σ H Q h => by
  obtain ⟨κ, ρ, S, s, p⟩ := h
  obtain ⟨k1, r1, s1, sm, q⟩ := EvN.bind (rel1 := relV (cx X)) s p
  refine ⟨k1, r1, s1, sm, q.mono ?_⟩
  rintro x H1 ⟨κ1, S1, v, g1, sm1, rx, p1⟩
  unfold rvA at p1
  split at p1
  · rename_i y ey
    split at p1
    · rename_i xs exs
      split at p1
      · rename_i hb
        rcases seq_cases sm1.cells rx ey exs with ⟨a, ⟨e1, t1⟩, ⟨zs, l1, r1⟩, h⟩ | ⟨a, ⟨e1, t1⟩, ⟨zs, l1, _⟩, h⟩ | ⟨z, ⟨e1, t1⟩, e2⟩
        · subst e1
          exact ⟨a, zs, rfl, l1, fun p hp => postN_laid (.refl _ _) sm1.cells r1.reverse hp p1⟩
        · rw [tp_sq t1] at hb; exact absurd hb Bool.false_ne_true
        · rw [t1] at hb; exact absurd hb Bool.false_ne_true
      · exact p1.elim
    · exact p1.elim
  · exact p1.elim
end Dn

/-! Pl0: the plain readings, evaluated. -/
namespace Dn
open PySem PySem.Spec PyProof.Rows L2

section
variable {α β : Type} {a : α} {S S' T : Store} {ρ : Env'} {f g : Env' → M Val} {v w : Val}
@[simp] theorem ob_ok {k : α → M β} : (Out.ok a S).bind k = k a S := (rfl)
@[simp] theorem ob_exc {e : Exc} {k : α → M β} : (Out.exc e S).bind k = .exc e S := (rfl)
@[simp] theorem mb_app {x : M α} {k : α → M β} : M.bind x k S = (x S).bind k := (rfl)
@[simp] theorem mp_app : M.pure a S = .ok a S := (rfl)
@[simp] theorem dC_app {x : D} : dC x ρ S = .ok (.d x) S := (rfl)
@[simp] theorem dNil_app : dNil ρ S = .ok [] S := (rfl)
@[simp] theorem dCons_app {r : Env' → M (List Val)} : dCons f r ρ S = (f ρ S).bind fun a => M.bind (r ρ) fun b => M.pure (a :: b) := (rfl)
@[simp] theorem dVar_app {i : Nat} : dVar i ρ S = (match ρ[i]? with | some (some v) => .ok v S | _ => .bad) := (rfl)
@[simp] theorem rd_d {x : D} : rd (.d x) S = some x := (rfl)
@[simp] theorem dOp2_app {o : D → D → Option D} : dOp2 o f g ρ S = (f ρ S).bind fun a => M.bind (g ρ) fun b => op2 o a b := (rfl)
@[simp] theorem dOp1_app {o : D → Option D} : dOp1 o f ρ S = (f ρ S).bind fun a => op1 o a := (rfl)
@[simp] theorem op2_app {o : D → D → Option D} : op2 o v w S = (match rd v S, rd w S with | some x, some y => (match o x y with | some z => .ok (.d z) S | none => .bad) | _, _ => .bad) := (rfl)
@[simp] theorem op1_app {o : D → Option D} : op1 o v S = (match rd v S with | some x => (match o x with | some z => .ok (.d z) S | none => .bad) | _ => .bad) := (rfl)
@[simp] theorem isBl_app {b : Bool} : isBl (.d (.bl b)) S = .ok b S := (rfl)
@[simp] theorem dTest_app : dTest f ρ S = (f ρ S).bind isBl := (rfl)
@[simp] theorem bAnd_app {x : Bool} {m : M Bool} : bAnd x m S = if x = true then m S else .ok false S := (rfl)
@[simp] theorem bOr_app {x : Bool} {m : M Bool} : bOr x m S = if x = true then .ok true S else m S := (rfl)
@[simp] theorem bIf_app {x : Bool} {m m' : M α} : bIf x m m' S = if x = true then m S else m' S := (rfl)
@[simp] theorem dAndT_app {f g : Env' → M Bool} : dAndT f g ρ S = (f ρ S).bind fun a => bAnd a (g ρ) := (rfl)
@[simp] theorem dOrT_app {f g : Env' → M Bool} : dOrT f g ρ S = (f ρ S).bind fun a => bOr a (g ρ) := (rfl)
@[simp] theorem dNotT_app {f : Env' → M Bool} : dNotT f ρ S = (f ρ S).bind fun a => M.pure (!a) := (rfl)
@[simp] theorem dIf_app {c : Env' → M Bool} {f g : Env' → M α} : dIf c f g ρ S = (c ρ S).bind fun a => bIf a (f ρ) (g ρ) := (rfl)
@[simp] theorem dAndV_app : dAndV f g ρ S = (f ρ S).bind fun a => M.bind (isBl a) fun k => bIf k (g ρ) (M.pure (.d (.bl false))) := (rfl)
@[simp] theorem dOrV_app : dOrV f g ρ S = (f ρ S).bind fun a => M.bind (isBl a) fun k => bIf k (M.pure (.d (.bl true))) (g ρ) := (rfl)
@[simp] theorem dNotV_app : dNotV f ρ S = (f ρ S).bind fun a => M.bind (isBl a) fun k => M.pure (.d (.bl (!k))) := (rfl)
@[simp] theorem dChain_app {o o' : D → D → Option D} {h : Env' → M Val} : dChain o o' f g h ρ S = (f ρ S).bind fun a => M.bind (g ρ) fun b => op3 o o' a b (h ρ) := (rfl)
@[simp] theorem op3_app {o o' : D → D → Option D} {m : M Val} : op3 o o' v w m S = (op2 o v w S).bind fun z => M.bind (isBl z) fun k => op3k o' w m k := (rfl)
@[simp] theorem op3k_app {o : D → D → Option D} {m : M Val} {k : Bool} : op3k o w m k S = if k = true then (m S).bind (fun c => op2 o w c) else .ok (.d (.bl false)) S := (rfl)
@[simp] theorem dTup_app {r : Env' → M (List Val)} : dTup r ρ S = (r ρ S).bind mkTup := (rfl)
@[simp] theorem dLst_app {r : Env' → M (List Val)} : dLst r ρ S = (r ρ S).bind mkLst := (rfl)
@[simp] theorem mkTup_app {vs : List Val} : mkTup vs S = (match toDs vs with | some xs => if xs.length ≤ 1000000 then .ok (.d (.tup xs)) S else .bad | none => .bad) := (rfl)
@[simp] theorem mkLst_app {vs : List Val} : mkLst vs S = (match toDs vs with | some xs => if xs.length ≤ 1000000 then .ok (.d (.lst xs)) S else .bad | none => .bad) := (rfl)
@[simp] theorem mkN_app {vs : List Val} : mkN vs S = (match toDs vs with | some xs => if xs.length ≤ 1000000 then .ok xs S else .bad | none => .bad) := (rfl)
@[simp] theorem toDs_nil : toDs [] = some [] := (rfl)
@[simp] theorem toDs_cons {x : D} {r : List Val} : toDs (.d x :: r) = (toDs r).map (x :: ·) := (rfl)
@[simp] theorem nLst_app {r : Env' → M (List Val)} : nLst r ρ S = (r ρ S).bind mkN := (rfl)
@[simp] theorem dN_app {r : Env' → M (List D)} : dN r ρ S = (r ρ S).bind fun xs => M.pure (.d (.lst xs)) := (rfl)
@[simp] theorem dCallB_app {o : List D → Option D} {r : Env' → M (List Val)} : dCallB o r ρ S = (r ρ S).bind (opc o) := (rfl)
@[simp] theorem nCallB_app {o : List D → Option (List D)} {r : Env' → M (List Val)} : nCallB o r ρ S = (r ρ S).bind (opn o) := (rfl)
@[simp] theorem opc_app {o : List D → Option D} {vs : List Val} : opc o vs S = (match rds vs S with | some ds => (match o ds with | some z => .ok (.d z) S | none => .bad) | none => .bad) := (rfl)
@[simp] theorem opn_app {o : List D → Option (List D)} {vs : List Val} : opn o vs S = (match rds vs S with | some ds => (match o ds with | some z => .ok z S | none => .bad) | none => .bad) := (rfl)
@[simp] theorem rds_nil : rds [] S = some [] := (rfl)
@[simp] theorem rds_cons {vs : List Val} : rds (v :: vs) S = (match rd v S, rds vs S with | some x, some xs => some (x :: xs) | _, _ => none) := (rfl)
@[simp] theorem dCall_app {den : List Val → M Val} {r : Env' → M (List Val)} : dCall den r ρ S = (r ρ S).bind den := (rfl)
@[simp] theorem dCallK_app {den : List Val → M Val} {idx : List Nat} {r r' : Env' → M (List Val)} : dCallK den idx r r' ρ S = (r ρ S).bind fun vs => M.bind (r' ρ) fun ws => den (pick idx (vs ++ ws)) := (rfl)
@[simp] theorem dSl_app {l u : Env' → M (Option Int)} : dSl f l u ρ S = (f ρ S).bind fun a => M.bind (l ρ) fun l => M.bind (u ρ) fun u => opSl a l u := (rfl)
@[simp] theorem opSl_app {l u : Option Int} : opSl v l u S = op1 (slD l u) v S := (rfl)
@[simp] theorem dNoPart_app : dNoPart ρ S = .ok none S := (rfl)
@[simp] theorem dPart_app : dPart f ρ S = (f ρ S).bind asInt := (rfl)
@[simp] theorem asInt_app {i : Int} : asInt (.d (.int i)) S = .ok (some i) S := (rfl)
@[simp] theorem dIter_app : dIter f ρ S = (f ρ S).bind wOf := (rfl)
@[simp] theorem wOf_app : wOf v S = (match rd v S with | some x => (match itemsD x with | some xs => .ok ⟨xs, guardOf v xs⟩ S | none => .bad) | none => .bad) := (rfl)
@[simp] theorem dRng_app {r : Env' → M (List Val)} : dRng r ρ S = (r ρ S).bind rngW := (rfl)
@[simp] theorem dEnum_app {r : Env' → M (List Val)} : dEnum r ρ S = (r ρ S).bind fun vs => M.bind (arg1 vs) enW := (rfl)
@[simp] theorem arg1_app : arg1 [v] S = .ok v S := (rfl)
@[simp] theorem arg2_app {k : Val → Val → M α} : arg2 [v, w] k S = k v w S := (rfl)
@[simp] theorem dZip_app {r : Env' → M (List Val)} : dZip r ρ S = (r ρ S).bind fun vs => arg2 vs ziW := (rfl)
@[simp] theorem dat_app {x : D} : dat (.d x) S = .ok x S := (rfl)
@[simp] theorem rd_cell {n : Nat} : rd (.cell n) S = (match S[n]? with | some (.lst xs) => some (.lst xs) | some (.dct ks ds) => some (.dct ks ds) | _ => none) := (rfl)
@[simp] theorem lstC_app {n : Nat} : lstC (.cell n) S = (match S[n]? with | some (.lst _) => .ok n S | _ => .bad) := (rfl)
@[simp] theorem dApp_app {fo fx : Env' → M Val} : dApp fo fx ρ S = (fo ρ S).bind fun v => M.bind (lstC v) fun n => M.bind (fx ρ) fun a => appC n a := (rfl)
@[simp] theorem appC_app {n : Nat} {x : D} : appC n (.d x) S = (match S[n]? with | some (.lst xs) => if xs.length < 1000000 then .ok (.d .non) (S.set n (.lst (xs ++ [x]))) else .bad | _ => .bad) := by
  unfold appC
  cases S[n]? with
  | none => rfl
  | some c => cases c <;> rfl
@[simp] theorem last_get {c : Cell} : (S ++ [c])[S.length]? = some c := by simp
@[simp] theorem last_set {c c' : Cell} : (S ++ [c]).set S.length c' = S ++ [c'] := by simp
/-! statements -/
@[simp] theorem st_ok {k : α → SD} : (Out.ok a S).st ρ k = k a ρ S := (rfl)
@[simp] theorem st_exc {e : Exc} {k : α → SD} : (Out.exc e S).st ρ k = .exc e ρ S := (rfl)
@[simp] theorem seq_next {g : SD} : (SOut.next ρ S).seq g = g ρ S := (rfl)
@[simp] theorem seq_ret {g : SD} : (SOut.ret v S).seq g = .ret v S := (rfl)
@[simp] theorem seq_cont {g : SD} : (SOut.cont ρ S).seq g = .cont ρ S := (rfl)
@[simp] theorem seq_brk {g : SD} : (SOut.brk ρ S).seq g = .brk ρ S := (rfl)
@[simp] theorem seq_exc {e : Exc} {g : SD} : (SOut.exc e ρ S).seq g = .exc e ρ S := (rfl)
@[simp] theorem loop_next {g : SD} : (SOut.next ρ S).loop g = g ρ S := (rfl)
@[simp] theorem loop_cont {g : SD} : (SOut.cont ρ S).loop g = g ρ S := (rfl)
@[simp] theorem loop_brk {g : SD} : (SOut.brk ρ S).loop g = .next ρ S := (rfl)
@[simp] theorem loop_ret {g : SD} : (SOut.ret v S).loop g = .ret v S := (rfl)
@[simp] theorem sNext_app : sNext ρ S = .next ρ S := (rfl)
@[simp] theorem sSeq_app {f g : SD} : sSeq f g ρ S = (f ρ S).seq g := (rfl)
@[simp] theorem sExpr_app : sExpr f ρ S = (f ρ S).st ρ fun _ => sNext := (rfl)
@[simp] theorem sRet_app : sRet f ρ S = (f ρ S).st ρ fun v _ S' => .ret v S' := (rfl)
@[simp] theorem sRetN_app : sRetN ρ S = .ret (.d .non) S := (rfl)
@[simp] theorem sRetC_app {f : Env' → M (List D)} : sRetC f ρ S = (f ρ S).st ρ fun xs _ S' => .ret (.cell S'.length) (S' ++ [.lst xs]) := (rfl)
@[simp] theorem sIf_app {c : Env' → M Bool} {f g : SD} : sIf c f g ρ S = (c ρ S).st ρ fun b ρ' S' => if b = true then f ρ' S' else g ρ' S' := (rfl)
@[simp] theorem sSet_app {i : Nat} : sSet i f ρ S = (f ρ S).st ρ fun v ρ' S' => .next (ρ'.set i (some v)) S' := (rfl)
@[simp] theorem sSetC_app {i : Nat} {f : Env' → M (List D)} : sSetC i f ρ S = (f ρ S).st ρ fun xs ρ' S' => .next (ρ'.set i (some (.cell S'.length))) (S' ++ [.lst xs]) := (rfl)
@[simp] theorem sBrk_app : sBrk ρ S = .brk ρ S := (rfl)
@[simp] theorem sCont_app : sCont ρ S = .cont ρ S := (rfl)
@[simp] theorem sFor_app {w : Env' → M Walk} {b : TB} {body : SD} : sFor w b body ρ S = (w ρ S).st ρ fun w ρ' S' => forN w b body w.items ρ' S' := (rfl)
@[simp] theorem sAsg_app {b : TB} : sAsg b f ρ S = (f ρ S).st ρ fun v ρ' S' => match v with | .d d => (match b d ρ' with | some ρ'' => .next ρ'' S' | none => .bad) | .cell _ => .bad := (rfl)
@[simp] theorem sAsgX_app {b : TX} : sAsgX b f ρ S = (f ρ S).st ρ fun v ρ' S' => match v with | .d d => (match b d ρ' S' with | some p => .next p.1 p.2 | none => .bad) | .cell _ => .bad := (rfl)
@[simp] theorem sPar_app {i j : Nat} {r : Env' → M (List Val)} : sPar i j r ρ S = (r ρ S).st ρ fun vs ρ' S' => match vs with | [v, w] => .next ((ρ'.set i (some v)).set j (some w)) S' | _ => .bad := (rfl)
@[simp] theorem sPar3_app {i j l : Nat} {r : Env' → M (List Val)} : sPar3 i j l r ρ S = (r ρ S).st ρ (par3 i j l) := (rfl)
@[simp] theorem par3_app {i j l : Nat} {x y z : Val} : par3 i j l [x, y, z] ρ S = .next (((ρ.set i (some x)).set j (some y)).set l (some z)) S := (rfl)
@[simp] theorem bName_app {i : Nat} {d : D} : bName i d ρ = if i < ρ.length then some (ρ.set i (some (.d d))) else none := (rfl)
@[simp] theorem bTup_app {n : Nat} {c : TBs} {xs : List D} : bTup n c (.tup xs) ρ = if xs.length = n then c xs ρ else none := (rfl)
@[simp] theorem bCons_app {b : TB} {c : TBs} {d : D} {r : List D} : bCons b c (d :: r) ρ = (b d ρ).bind (c r) := (rfl)
@[simp] theorem bNil_app : bNil [] ρ = some ρ := (rfl)
/-! operators -/
@[simp] theorem addD_ii {i j : Int} : addD (.int i) (.int j) = some (.int (i + j)) := (rfl)
@[simp] theorem subD_ii {i j : Int} : subD (.int i) (.int j) = some (.int (i - j)) := (rfl)
@[simp] theorem negD_i {i : Int} : negD (.int i) = some (.int (-i)) := (rfl)
@[simp] theorem modD_ii {i j : Int} : modD (.int i) (.int j) = if 0 < j then some (.int (i % j)) else none := (rfl)
@[simp] theorem cmpD_ii {p : Int → Int → Bool} {i j : Int} : cmpD p (.int i) (.int j) = some (.bl (p i j)) := (rfl)
@[simp] theorem idx_tup {xs : List D} {i : Int} : idxD (.tup xs) (.int i) = L2.atI xs i := (rfl)
@[simp] theorem idx_lst {xs : List D} {i : Int} : idxD (.lst xs) (.int i) = L2.atI xs i := (rfl)
@[simp] theorem idx_scr {ns : List Int} {i : Int} : idxD (.scr ns) (.int i) = (L2.atI ns i).map .int := (rfl)
@[simp] theorem sl_tup' {xs : List D} {l u : Option Int} : slD l u (.tup xs) = some (.tup (cutD xs l u)) := (rfl)
@[simp] theorem sl_lst' {xs : List D} {l u : Option Int} : slD l u (.lst xs) = some (.lst (cutD xs l u)) := (rfl)
@[simp] theorem sl_scr' {xs : List Int} {l u : Option Int} : slD l u (.scr xs) = some (.lst ((cutD xs l u).map .int)) := (rfl)
@[simp] theorem items_lst {xs : List D} : itemsD (.lst xs) = some xs := (rfl)
@[simp] theorem items_tup {xs : List D} : itemsD (.tup xs) = some xs := (rfl)
@[simp] theorem items_scr {xs : List Int} : itemsD (.scr xs) = some (xs.map .int) := (rfl)
@[simp] theorem seq_lst {xs : List D} : seqD (.lst xs) = some xs := (rfl)
@[simp] theorem seq_tup {xs : List D} : seqD (.tup xs) = some xs := (rfl)
@[simp] theorem seq_scr {xs : List Int} : seqD (.scr xs) = some (xs.map .int) := (rfl)
@[simp] theorem guard_d {x : D} {xs : List D} : guardOf (.d x) xs = [] := (rfl)
@[simp] theorem len_tup {xs : List D} : lenD [.tup xs] = some (.int xs.length) := (rfl)
@[simp] theorem len_lst {xs : List D} : lenD [.lst xs] = some (.int xs.length) := (rfl)
@[simp] theorem len_scr {xs : List Int} : lenD [.scr xs] = some (.int xs.length) := by simp [lenD]
@[simp] theorem int_i {i : Int} : intD [.int i] = some (.int i) := (rfl)
@[simp] theorem abs_i {i : Int} : absD [.int i] = some (.int (if i < 0 then -i else i)) := (rfl)
@[simp] theorem tuple_d {x : D} : tupleD [x] = (seqD x).map .tup := (rfl)
@[simp] theorem list_d {x : D} : listN [x] = seqD x := (rfl)
@[simp] theorem isi_d {x : D} {n : String} : isiD [x, .ty n] = (isiB x n).map .bl := (rfl)
@[simp] theorem divmod_ii {i j : Int} : divmodD [.int i, .int j] = if 0 < j ∧ j < 1073741824 then some (.tup [.int (i / j), .int (i % j)]) else none := (rfl)
@[simp] theorem rev_tup {xs : List D} : revD (.tup xs) = some (.tup xs.reverse) := (rfl)
@[simp] theorem rev_lst {xs : List D} : revD (.lst xs) = some (.lst xs.reverse) := (rfl)
@[simp] theorem maxDD_ii {i j : Int} : maxDD [.int i, .int j] = some (.int (max i j)) := (rfl)
@[simp] theorem minDD_ii {i j : Int} : minDD [.int i, .int j] = some (.int (min i j)) := (rfl)
@[simp] theorem all_bls {bs : List Bool} : allD [.lst (bs.map .bl)] = some (.bl (bs.all id)) := by simp [allD]
@[simp] theorem any_bls {bs : List Bool} : anyD [.lst (bs.map .bl)] = some (.bl (bs.any id)) := by simp [anyD]
@[simp] theorem sum_lst {ns : List Int} : sumD [.lst (ns.map .int)] = some (.int ns.sum) := by simp [sumD]
@[simp] theorem sum_tup {ns : List Int} : sumD [.tup (ns.map .int)] = some (.int ns.sum) := by simp [sumD]
@[simp] theorem max_lst {ns : List Int} : maxDD [.lst (ns.map .int)] = (maxI ns).map .int := by simp [maxDD, intsOf]
@[simp] theorem max_tup {ns : List Int} : maxDD [.tup (ns.map .int)] = (maxI ns).map .int := by simp [maxDD, intsOf]
@[simp] theorem min_lst {ns : List Int} : minDD [.lst (ns.map .int)] = (minI ns).map .int := by simp [minDD, intsOf]
@[simp] theorem min_tup {ns : List Int} : minDD [.tup (ns.map .int)] = (minI ns).map .int := by simp [minDD, intsOf]
@[simp] theorem sort_lst {ns : List Int} : sortN [.lst (ns.map .int)] = some ((isort ns).map .int) := by simp [sortN, intsOf]
@[simp] theorem sort_tup {ns : List Int} : sortN [.tup (ns.map .int)] = some ((isort ns).map .int) := by simp [sortN, intsOf]
@[simp] theorem isNon_d {x : D} : isNonD x .non = some (.bl (isNonB x)) := (rfl)
@[simp] theorem notNon_d {x : D} : notNonD x .non = some (.bl (!isNonB x)) := (rfl)
@[simp] theorem envOf_app {n : Nat} {args : List Val} : Dn.envOf n args = args.map some ++ List.replicate (n - args.length) none := (rfl)
@[simp] theorem runF_app {n : Nat} {body : SD} {args : List Val} {S : Store} : runF n body args S = (match body (Dn.envOf n args) S with
  | .next _ S' => exitV S.length (.d .non) S'
  | .ret v S' => exitV S.length v S'
  | .exc e _ S' => .exc e (S'.take S.length)
  | _ => .bad) := (rfl)
@[simp] theorem runK_app {n : Nat} {body : SD} {args : List Val} {S : Store} : runK n body args S = (match body (Dn.envOf n args) S with
  | .next _ S' => .ok (.d .non) S'
  | .ret v S' => .ok v S'
  | .exc e _ S' => .exc e S'
  | _ => .bad) := (rfl)
/-! the ends of a def -/
@[simp] theorem exit_same : exitV S.length v S = .ok v S := by unfold exitV; rw [if_pos rfl]
@[simp] theorem exit_more {x : D} : exitV S.length (.d x) (S ++ T) = .ok (.d x) S := by
  unfold exitV
  split
  · rename_i h
    have : T = [] := by
      rw [List.length_append] at h
      exact List.eq_nil_of_length_eq_zero (by omega)
    rw [this, List.append_nil]
  · simp
@[simp] theorem exit_cell {xs : List D} {T : Store} : exitV S.length (.cell S.length) (S ++ .lst xs :: T) = .ok (.d (.lst xs)) S := by
  unfold exitV
  rw [if_neg (by simp)]
  simp
end

/-! ### loops -/
@[simp] theorem live_nil {xs : List D} {S : Store} : (Walk.mk xs []).live S := fun p m => by cases m
theorem for_nil {w : Walk} {b : TB} {body : SD} {ρ : Env'} {S : Store} (h : w.live S) : forN w b body [] ρ S = .next ρ S := by
  unfold forN; rw [if_pos h]
theorem for_cons {w : Walk} {b : TB} {body : SD} {ρ ρ1 : Env'} {S : Store} {x : D} {xs : List D} (h : w.live S) (e : b x ρ = some ρ1) : forN w b body (x :: xs) ρ S = (body ρ1 S).loop (forN w b body xs) := by
  conv => lhs; unfold forN
  rw [if_pos h, e]
/-- a loop without a way out: what stands ahead of turn i -/
theorem for_run {w : Walk} {b : TB} {body : SD} (I : Nat → Env' → Store → Prop) (hl : ∀ i ρ S, I i ρ S → w.live S)
    (hs : ∀ i x ρ S, w.items[i]? = some x → I i ρ S → ∃ ρ1 ρ2 S2, b x ρ = some ρ1 ∧ (body ρ1 S = .next ρ2 S2 ∨ body ρ1 S = .cont ρ2 S2) ∧ I (i + 1) ρ2 S2) :
    ∀ (xs : List D) (i : Nat) (ρ : Env') (S : Store), w.items.drop i = xs → I i ρ S → ∃ ρ2 S2, forN w b body xs ρ S = .next ρ2 S2 ∧ I (i + xs.length) ρ2 S2
  | [], i, ρ, S, _, h => ⟨ρ, S, for_nil (hl i ρ S h), h⟩
  | x :: xs, i, ρ, S, e, h => by
    have hi : i < w.items.length := by
      by_cases hi : i < w.items.length
      · exact hi
      · rw [List.drop_eq_nil_iff.mpr (by omega)] at e; cases e
    rw [List.drop_eq_getElem_cons hi] at e
    injection e with e1 e2
    obtain ⟨ρ1, ρ2, S2, h1, h2, h3⟩ := hs i x ρ S (by rw [List.getElem?_eq_getElem hi, e1]) h
    obtain ⟨ρ3, S3, h4, h5⟩ := for_run I hl hs xs (i + 1) ρ2 S2 e2 h3
    refine ⟨ρ3, S3, ?_, by rw [List.length_cons]; have : i + (xs.length + 1) = i + 1 + xs.length := by omega
                           rw [this]; exact h5⟩
    rw [for_cons (hl i ρ S h) h1]
    rcases h2 with h2 | h2
    · rw [h2]; exact h4
    · rw [h2]; exact h4
theorem for_all {w : Walk} {b : TB} {body : SD} {ρ : Env'} {S : Store} (I : Nat → Env' → Store → Prop) (hl : ∀ i ρ S, I i ρ S → w.live S)
    (hs : ∀ i x ρ S, w.items[i]? = some x → I i ρ S → ∃ ρ1 ρ2 S2, b x ρ = some ρ1 ∧ (body ρ1 S = .next ρ2 S2 ∨ body ρ1 S = .cont ρ2 S2) ∧ I (i + 1) ρ2 S2) (h : I 0 ρ S) : ∃ ρ2 S2, forN w b body w.items ρ S = .next ρ2 S2 ∧ I w.items.length ρ2 S2 := by
  obtain ⟨ρ2, S2, h1, h2⟩ := for_run I hl hs w.items 0 ρ S rfl h
  rw [Nat.zero_add] at h2
  exact ⟨ρ2, S2, h1, h2⟩
/-! comprehensions -/
inductive All2 {α β : Type} (P : α → β → Prop) : List α → List β → Prop where
  | nil : All2 P [] []
  | cons {x : α} {y : β} {xs : List α} {ys : List β} (h : P x y) (t : All2 P xs ys) : All2 P (x :: xs) (y :: ys)
theorem All2.length {α β : Type} {P : α → β → Prop} : ∀ {xs : List α} {ys : List β}, All2 P xs ys → ys.length = xs.length
  | _, _, .nil => rfl
  | _, _, .cons _ t => by rw [List.length_cons, List.length_cons, t.length]
theorem lc_nil {w : Walk} {b : TB} {c : Env' → M Bool} {el : Env' → M Val} {ρ : Env'} {acc : List D} {S : Store} (h : w.live S) : lcN w b c el ρ [] acc S = .ok acc S := by
  unfold lcN; rw [if_pos h]
/-- no state is changed: cond and elt by plain functions -/
theorem lc_pure {w : Walk} {b : TB} {c : Env' → M Bool} {el : Env' → M Val} {ρ : Env'} {S : Store} (p : D → Bool) (f : D → D) (hl : w.live S) :
    ∀ (xs : List D) (acc : List D), acc.length + xs.length ≤ 1000000 → (∀ x ∈ xs, ∃ ρ1, b x ρ = some ρ1 ∧ c ρ1 S = .ok (p x) S ∧ (p x = true → el ρ1 S = .ok (.d (f x)) S)) →
      lcN w b c el ρ xs acc S = .ok (acc ++ (xs.filter p).map f) S
  | [], acc, _, _ => by rw [lc_nil hl]; simp
  | x :: xs, acc, hz, h => by
    obtain ⟨ρ1, h1, h2, h3⟩ := h x List.mem_cons_self
    conv => lhs; unfold lcN
    rw [if_pos hl, h1]
    show (c ρ1 S).bnd _ = _
    rw [h2]
    show (if p x = true then _ else _) = _
    rw [List.length_cons] at hz
    cases hp : p x with
    | true =>
      rw [if_pos rfl, h3 hp]
      show (if acc.length < 1000000 then lcN w b c el ρ xs (acc ++ [f x]) S else .bad) = _
      rw [if_pos (by omega), lc_pure p f hl xs (acc ++ [f x]) (by rw [List.length_append, List.length_singleton]; omega) fun y m => h y (List.mem_cons_of_mem _ m)]
      rw [List.filter_cons_of_pos hp, List.map_cons, List.append_assoc]; rfl
    | false =>
      rw [if_neg Bool.false_ne_true, lc_pure p f hl xs acc (by omega) fun y m => h y (List.mem_cons_of_mem _ m)]
      rw [List.filter_cons_of_neg (by rw [hp]; exact Bool.false_ne_true)]
theorem lc_map {α : Type} {w : Walk} {b : TB} {c : Env' → M Bool} {el : Env' → M Val} {ρ : Env'} {S : Store} (emb : α → D) (p : α → Bool) (f : α → D) (hl : w.live S) :
    ∀ (xs : List α) (acc : List D), acc.length + xs.length ≤ 1000000 → (∀ x ∈ xs, ∃ ρ1, b (emb x) ρ = some ρ1 ∧ c ρ1 S = .ok (p x) S ∧ (p x = true → el ρ1 S = .ok (.d (f x)) S)) →
      lcN w b c el ρ (xs.map emb) acc S = .ok (acc ++ (xs.filter p).map f) S
  | [], acc, _, _ => by rw [List.map_nil, lc_nil hl]; simp
  | x :: xs, acc, hz, h => by
    obtain ⟨ρ1, h1, h2, h3⟩ := h x List.mem_cons_self
    rw [List.map_cons]
    conv => lhs; unfold lcN
    rw [if_pos hl, h1]
    show (c ρ1 S).bnd _ = _
    rw [h2]
    show (if p x = true then _ else _) = _
    rw [List.length_cons] at hz
    cases hp : p x with
    | true =>
      rw [if_pos rfl, h3 hp]
      show (if acc.length < 1000000 then lcN w b c el ρ (xs.map emb) (acc ++ [f x]) S else .bad) = _
      rw [if_pos (by omega), lc_map emb p f hl xs (acc ++ [f x]) (by rw [List.length_append, List.length_singleton]; omega) fun y m => h y (List.mem_cons_of_mem _ m)]
      rw [List.filter_cons_of_pos hp, List.map_cons, List.append_assoc]; rfl
    | false =>
      rw [if_neg Bool.false_ne_true, lc_map emb p f hl xs acc (by omega) fun y m => h y (List.mem_cons_of_mem _ m)]
      rw [List.filter_cons_of_neg (by rw [hp]; exact Bool.false_ne_true)]
/-- .. from the start, without a test -/
theorem lc_all {α : Type} {w : Walk} {b : TB} {el : Env' → M Val} {ρ : Env'} {S : Store} (emb : α → D) (f : α → D) (hl : w.live S) (xs : List α) (hz : xs.length ≤ 1000000) (h : ∀ x ∈ xs, ∃ ρ1, b (emb x) ρ = some ρ1 ∧ el ρ1 S = .ok (.d (f x)) S) :
    lcN w b cYes el ρ (xs.map emb) [] S = .ok (xs.map f) S := by
  rw [lc_map (c := cYes) emb (fun _ => true) f hl xs [] (by simpa using hz) fun x m => let ⟨ρ1, h1, h2⟩ := h x m; ⟨ρ1, h1, rfl, fun _ => h2⟩]
  rw [List.nil_append, List.filter_eq_self.mpr fun _ _ => rfl]
theorem lc_if {α : Type} {w : Walk} {b : TB} {c : Env' → M Bool} {el : Env' → M Val} {ρ : Env'} {S : Store} (emb : α → D) (p : α → Bool) (f : α → D) (hl : w.live S) (xs : List α) (hz : xs.length ≤ 1000000)
    (h : ∀ x ∈ xs, ∃ ρ1, b (emb x) ρ = some ρ1 ∧ c ρ1 S = .ok (p x) S ∧ (p x = true → el ρ1 S = .ok (.d (f x)) S)) :
    lcN w b c el ρ (xs.map emb) [] S = .ok ((xs.filter p).map f) S := by
  rw [lc_map emb p f hl xs [] (by simpa using hz) h]; simp
theorem lc_no {α : Type} {w : Walk} {b : TB} {c : Env' → M Bool} {el : Env' → M Val} {ρ : Env'} {S : Store} (emb : α → D) (hl : w.live S) (xs : List α)
    (h : ∀ x ∈ xs, ∃ ρ1, b (emb x) ρ = some ρ1 ∧ c ρ1 S = .ok false S) (hz : xs.length ≤ 1000000) : lcN w b c el ρ (xs.map emb) [] S = .ok [] S := by
  rw [lc_if emb (fun _ => false) (fun _ => .non) hl xs hz fun x m => let ⟨ρ1, h1, h2⟩ := h x m; ⟨ρ1, h1, h2, fun z => nomatch z⟩]
  rw [List.filter_eq_nil_iff.mpr fun _ _ => Bool.false_ne_true]; rfl
@[simp] theorem cut_nil {α : Type} {l u : Option Int} : Dn.cutD ([] : List α) l u = [] := by unfold Dn.cutD; simp
theorem cut_to {α : Type} {xs : List α} {i : Int} (h : 0 ≤ i) : Dn.cutD xs none (some i) = xs.take i.toNat := by
  unfold Dn.cutD HT.sIx
  simp only [List.drop_zero]
  rw [if_neg (by omega), Nat.sub_zero]
  exact List.take_eq_take_min.symm
theorem cut_from {α : Type} {xs : List α} {i : Int} (h : 0 ≤ i) : Dn.cutD xs (some i) none = xs.drop i.toNat := by
  unfold Dn.cutD HT.sIx
  simp only []
  rw [if_neg (by omega)]
  by_cases hi : i.toNat ≤ xs.length
  · rw [Nat.min_eq_left hi]
    exact List.take_of_length_le (by rw [List.length_drop]; exact Nat.le_refl _)
  · rw [Nat.min_eq_right (by omega), List.drop_eq_nil_iff.mpr (Nat.le_refl _), List.drop_eq_nil_iff.mpr (by omega)]; simp
theorem cut_mid {α : Type} {xs : List α} {i j : Int} (h : 0 ≤ i) (k : 0 ≤ j) : Dn.cutD xs (some i) (some j) = (xs.take j.toNat).drop i.toNat := by
  unfold Dn.cutD HT.sIx
  simp only []
  rw [if_neg (by omega), if_neg (by omega), List.drop_take]
  by_cases hi : i.toNat ≤ xs.length
  · rw [Nat.min_eq_left hi]
    by_cases hj : j.toNat ≤ xs.length
    · rw [Nat.min_eq_left hj]
    · rw [Nat.min_eq_right (by omega), List.take_of_length_le (by rw [List.length_drop]; exact Nat.le_refl _), List.take_of_length_le (by rw [List.length_drop]; omega)]
  · rw [Nat.min_eq_right (show xs.length ≤ i.toNat by omega), List.drop_eq_nil_iff.mpr (Nat.le_refl _), List.drop_eq_nil_iff.mpr (show xs.length ≤ i.toNat by omega)]; simp
@[simp] theorem cut_all {α : Type} {xs : List α} : Dn.cutD xs none none = xs := by unfold Dn.cutD HT.sIx; simp
theorem cut_map {α β : Type} {f : α → β} {xs : List α} {l u : Option Int} : Dn.cutD (xs.map f) l u = (Dn.cutD xs l u).map f := by
  unfold Dn.cutD; rw [List.length_map, List.map_take, List.map_drop]
theorem pairsD_map {α : Type} (g : α → D) (xs : List α) : pairsD (xs.map g) = xs.zipIdx.map fun q => .tup [.int (q.2 : Nat), g q.1] := by
  apply List.ext_getElem?
  intro i
  unfold pairsD
  rw [List.getElem?_zipWith, List.getElem?_map, List.getElem?_map, List.getElem?_zipIdx, List.length_map]
  by_cases hi : i < xs.length
  · rw [List.getElem?_range hi, List.getElem?_eq_getElem hi]; simp
  · rw [List.getElem?_eq_none (show xs.length ≤ i by omega), List.getElem?_eq_none (by simpa using hi)]; rfl
theorem zipD_map {α β : Type} (g : α → D) (h : β → D) (xs : List α) (ys : List β) : zipD (xs.map g) (ys.map h) = (xs.zip ys).map fun q => .tup [g q.1, h q.2] := by
  unfold zipD; rw [List.zipWith_map, List.zip, List.map_zipWith]
/-- an element that changes the state; every one is taken -/
theorem lc_run {w : Walk} {b : TB} {c : Env' → M Bool} {el : Env' → M Val} {ρ : Env'} (I : Store → Prop) (P : D → D → Prop) (hl : ∀ S, I S → w.live S)
    (hs : ∀ x S, x ∈ w.items → I S → ∃ ρ1 S1 y, b x ρ = some ρ1 ∧ c ρ1 S = .ok true S ∧ el ρ1 S = .ok (.d y) S1 ∧ I S1 ∧ P x y) :
    ∀ (xs : List D) (acc : List D) (S : Store), (∀ x ∈ xs, x ∈ w.items) → acc.length + xs.length ≤ 1000000 → I S → ∃ ys S1, lcN w b c el ρ xs acc S = .ok (acc ++ ys) S1 ∧ I S1 ∧ All2 P xs ys
  | [], acc, S, _, _, h => ⟨[], S, by rw [lc_nil (hl S h), List.append_nil], h, .nil⟩
  | x :: xs, acc, S, hm, hz, h => by
    obtain ⟨ρ1, S1, y, h1, h2, h3, h4, h5⟩ := hs x S (hm x List.mem_cons_self) h
    rw [List.length_cons] at hz
    obtain ⟨ys, S2, k1, k2, k3⟩ := lc_run I P hl hs xs (acc ++ [y]) S1 (fun z m => hm z (List.mem_cons_of_mem _ m)) (by rw [List.length_append, List.length_singleton]; omega) h4
    refine ⟨y :: ys, S2, ?_, k2, .cons h5 k3⟩
    conv => lhs; unfold lcN
    rw [if_pos (hl S h), h1]
    show (c ρ1 S).bnd _ = _
    rw [h2]
    show ((el ρ1 S).bnd fun v S2 => (dat v S2).bnd fun d S3 => if acc.length < 1000000 then lcN w b c el ρ xs (acc ++ [d]) S3 else .bad) = _
    rw [h3]
    show (if acc.length < 1000000 then lcN w b c el ρ xs (acc ++ [y]) S1 else .bad) = _
    rw [if_pos (by omega), k1, List.append_assoc]; rfl
/-! ### == of data -/
@[simp] theorem py_int {i : Int} : py (.int i) = some (.int i) := rfl
@[simp] theorem py_bl {i : Bool} : py (.bl i) = some (.bool i) := rfl
@[simp] theorem py_non : py .non = some .none := rfl
@[simp] theorem py_str {i : Str} : py (.str i) = some (.str i) := rfl
@[simp] theorem py_tup {xs : List D} : py (.tup xs) = (pyL xs).map .tuple := rfl
@[simp] theorem py_lst {xs : List D} : py (.lst xs) = (pyL xs).map .list := rfl
@[simp] theorem pyL_nil : pyL [] = some [] := rfl
@[simp] theorem pyL_ints (ns : List Int) : pyL (ns.map .int) = some (ns.map .int) := by
  induction ns with
  | nil => rfl
  | cons n ns ih => rw [List.map_cons]; unfold pyL; rw [ih]; rfl
@[simp] theorem pyL_bls (ns : List Bool) : pyL (ns.map .bl) = some (ns.map .bool) := by
  induction ns with
  | nil => rfl
  | cons n ns ih => rw [List.map_cons]; unfold pyL; rw [ih]; rfl
theorem pyL_cons {x : D} {xs : List D} {p : PyData} {ps : List PyData} (h : py x = some p) (k : pyL xs = some ps) : pyL (x :: xs) = some (p :: ps) := by unfold pyL; rw [h, k]
@[simp] theorem dep_int {i : Int} : (PyData.int i).depth = 0 := by unfold PyData.depth; rfl
@[simp] theorem dep_bool {i : Bool} : (PyData.bool i).depth = 0 := by unfold PyData.depth; rfl
@[simp] theorem dep_none : (PyData.none).depth = 0 := by unfold PyData.depth; rfl
@[simp] theorem dep_str {i : Str} : (PyData.str i).depth = 0 := by unfold PyData.depth; rfl
@[simp] theorem dep_tuple {xs : List PyData} : (PyData.tuple xs).depth = PyData.depthAll xs + 1 := by rw [PyData.depth]
@[simp] theorem dep_list {xs : List PyData} : (PyData.list xs).depth = PyData.depthAll xs + 1 := by rw [PyData.depth]
@[simp] theorem dep_nil : PyData.depthAll [] = 0 := by rw [PyData.depthAll]
@[simp] theorem dep_cons {x : PyData} {xs : List PyData} : PyData.depthAll (x :: xs) = max x.depth (PyData.depthAll xs) := by rw [PyData.depthAll]
@[simp] theorem dep_ints {ns : List Int} : PyData.depthAll (ns.map .int) = 0 := depthAll_ints ns
@[simp] theorem dep_bools : ∀ {ns : List Bool}, PyData.depthAll (ns.map .bool) = 0
  | [] => by simp
  | n :: ns => by rw [List.map_cons, dep_cons, dep_bool, dep_bools]; rfl
@[simp] theorem eqv_ints {ns ms : List Int} : PyData.eqvAll (ns.map .int) (ms.map .int) = decide (ns = ms) := PySem.W.ked_eqvAll ns ms
@[simp] theorem eqv_bools : ∀ {ns ms : List Bool}, PyData.eqvAll (ns.map .bool) (ms.map .bool) = decide (ns = ms)
  | [], [] => by simp [PyData.eqvAll]
  | [], _ :: _ => by simp [PyData.eqvAll]
  | _ :: _, [] => by simp [PyData.eqvAll]
  | n :: ns, m :: ms => by
    rw [List.map_cons, List.map_cons, PyData.eqvAll, eqv_bools]
    show (PyData.eqv (.bool n) (.bool m) && _) = _
    rw [PyData.eqv]
    cases n <;> cases m <;> simp
@[simp] theorem eqD_ii {i j : Int} : eqD (.int i) (.int j) = some (.bl (decide (i = j))) := by
  simp [eqD, PyData.eqv]; rfl
@[simp] theorem neD_ii {i j : Int} : neD (.int i) (.int j) = some (.bl (!decide (i = j))) := by
  simp [neD, PyData.eqv]; rfl
@[simp] theorem eqD_bb {i j : Bool} : eqD (.bl i) (.bl j) = some (.bl (decide (i = j))) := by
  cases i <;> cases j <;> simp [eqD, PyData.eqv]
@[simp] theorem neD_bb {i j : Bool} : neD (.bl i) (.bl j) = some (.bl (!decide (i = j))) := by
  cases i <;> cases j <;> simp [neD, PyData.eqv]
@[simp] theorem eqD_ll {ns ms : List Int} : eqD (.lst (ns.map .int)) (.lst (ms.map .int)) = some (.bl (decide (ns = ms))) := by
  simp [eqD, PyData.eqv]
@[simp] theorem neD_ll {ns ms : List Int} : neD (.lst (ns.map .int)) (.lst (ms.map .int)) = some (.bl (!decide (ns = ms))) := by
  simp [neD, PyData.eqv]
@[simp] theorem eqD_tt {ns ms : List Int} : eqD (.tup (ns.map .int)) (.tup (ms.map .int)) = some (.bl (decide (ns = ms))) := by
  simp [eqD, PyData.eqv]
@[simp] theorem neD_tt {ns ms : List Int} : neD (.tup (ns.map .int)) (.tup (ms.map .int)) = some (.bl (!decide (ns = ms))) := by
  simp [neD, PyData.eqv]
@[simp] theorem eqD_lb {ns ms : List Bool} : eqD (.lst (ns.map .bl)) (.lst (ms.map .bl)) = some (.bl (decide (ns = ms))) := by
  simp [eqD, PyData.eqv]
/-- a list against the empty one -/
theorem eqD_l0 {ns : List Int} : eqD (.lst (ns.map .int)) (.lst []) = some (.bl (decide (ns = []))) := eqD_ll (ms := [])
/-! ### greatest, least, places -/
theorem foldl_min : ∀ (ns : List Int) (n : Int), (ns.foldl min n = n ∨ ns.foldl min n ∈ ns) ∧ ns.foldl min n ≤ n ∧ ∀ y ∈ ns, ns.foldl min n ≤ y
  | [], n => ⟨.inl rfl, Int.le_refl _, fun y m => by cases m⟩
  | x :: xs, n => by
    obtain ⟨h1, h2, h3⟩ := foldl_min xs (min n x)
    rw [List.foldl_cons]
    refine ⟨?_, by omega, fun y m => ?_⟩
    · rcases h1 with h1 | h1
      · rw [h1]
        by_cases h : n ≤ x
        · left; omega
        · right; have : min n x = x := by omega
          rw [this]; exact List.mem_cons_self
      · right; exact List.mem_cons_of_mem _ h1
    · rcases List.mem_cons.mp m with e | m
      · subst e; omega
      · exact h3 y m
theorem foldl_max : ∀ (ns : List Int) (n : Int), (ns.foldl max n = n ∨ ns.foldl max n ∈ ns) ∧ n ≤ ns.foldl max n ∧ ∀ y ∈ ns, y ≤ ns.foldl max n
  | [], n => ⟨.inl rfl, Int.le_refl _, fun y m => by cases m⟩
  | x :: xs, n => by
    obtain ⟨h1, h2, h3⟩ := foldl_max xs (max n x)
    rw [List.foldl_cons]
    refine ⟨?_, by omega, fun y m => ?_⟩
    · rcases h1 with h1 | h1
      · rw [h1]
        by_cases h : x ≤ n
        · left; omega
        · right; have : max n x = x := by omega
          rw [this]; exact List.mem_cons_self
      · right; exact List.mem_cons_of_mem _ h1
    · rcases List.mem_cons.mp m with e | m
      · subst e; omega
      · exact h3 y m
theorem minI_ok {ns : List Int} (h : ns ≠ []) : ∃ m, minI ns = some m ∧ m ∈ ns ∧ ∀ y ∈ ns, m ≤ y := by
  cases ns with
  | nil => exact absurd rfl h
  | cons n ns =>
    obtain ⟨h1, h2, h3⟩ := foldl_min ns n
    refine ⟨_, rfl, ?_, fun y m => (List.mem_cons.mp m).elim (fun e => by rw [e]; exact h2) (h3 y)⟩
    rcases h1 with h1 | h1
    · rw [h1]; exact List.mem_cons_self
    · exact List.mem_cons_of_mem _ h1
theorem maxI_ok {ns : List Int} (h : ns ≠ []) : ∃ m, maxI ns = some m ∧ m ∈ ns ∧ ∀ y ∈ ns, y ≤ m := by
  cases ns with
  | nil => exact absurd rfl h
  | cons n ns =>
    obtain ⟨h1, h2, h3⟩ := foldl_max ns n
    refine ⟨_, rfl, ?_, fun y m => (List.mem_cons.mp m).elim (fun e => by rw [e]; exact h2) (h3 y)⟩
    rcases h1 with h1 | h1
    · rw [h1]; exact List.mem_cons_self
    · exact List.mem_cons_of_mem _ h1
theorem atI_neg1 {α : Type} (xs : List α) : L2.atI xs (-1) = xs.getLast? := by
  rcases List.eq_nil_or_concat xs with h | ⟨ys, y, h⟩
  · subst h; rfl
  · subst h; rw [List.concat_eq_append, L2.atI_last]; simp
theorem atI_of {α : Type} {xs : List α} {i : Int} (h : 0 ≤ i) : L2.atI xs i = xs[i.toNat]? := by
  unfold L2.atI L2.ixN
  rw [if_pos h]
  by_cases hi : i < xs.length
  · rw [if_pos hi]; rfl
  · rw [if_neg hi, List.getElem?_eq_none (by omega)]; rfl
/-- a row of a few numbers -/
def Row (r : List Int) : Prop := 1 ≤ r.length ∧ r.length ≤ 8 ∧ ∀ x ∈ r, -9 ≤ x ∧ x ≤ 9
abbrev tupI (r : List Int) : D := .tup (r.map .int)
abbrev lstI (r : List Int) : D := .lst (r.map .int)
/-- the sums -/
def psums (r : List Int) : List Int := (List.range (r.length + 1)).map fun k => (r.take k).sum
theorem sum_take_succ {r : List Int} {i : Nat} (h : i < r.length) : (r.take (i + 1)).sum = (r.take i).sum + r[i] := by
  rw [List.take_succ_eq_append_getElem h, List.sum_append]; simp
theorem psums_ne (r : List Int) : psums r ≠ [] := by
  unfold psums; simp
@[simp] theorem psums_length (r : List Int) : (psums r).length = r.length + 1 := by simp [psums]
theorem psums_get {r : List Int} {k : Nat} (h : k ≤ r.length) : (psums r)[k]? = some (r.take k).sum := by
  unfold psums; rw [List.getElem?_map, List.getElem?_range (by omega)]; rfl
theorem psums_mem {r : List Int} {v : Int} : v ∈ psums r ↔ ∃ k, k ≤ r.length ∧ v = (r.take k).sum := by
  unfold psums; rw [List.mem_map]
  exact ⟨fun ⟨k, h, e⟩ => ⟨k, by have := List.mem_range.mp h; omega, e.symm⟩, fun ⟨k, h, e⟩ => ⟨k, List.mem_range.mpr (by omega), e.symm⟩⟩
/-- where a value stands -/
def placesI (ns : List Int) (v : Int) : List Int := (ns.zipIdx.filter fun q => decide (q.1 = v)).map fun q => (q.2 : Int)
theorem placesI_mem {ns : List Int} {v i : Int} : i ∈ placesI ns v ↔ ∃ k : Nat, i = k ∧ ns[k]? = some v := by
  unfold placesI
  rw [List.mem_map]
  constructor
  · rintro ⟨⟨x, k⟩, h, e⟩
    obtain ⟨h1, h2⟩ := List.mem_filter.mp h
    have h3 := List.mem_zipIdx_iff_getElem?.mp h1
    simp at h2 h3
    exact ⟨k, e.symm, by rw [h3, h2]⟩
  · rintro ⟨k, e, h⟩
    exact ⟨(v, k), List.mem_filter.mpr ⟨List.mem_zipIdx_iff_getElem?.mpr h, by simp⟩, e.symm⟩
theorem placesI_sorted (ns : List Int) (v : Int) : (placesI ns v).Pairwise (· < ·) := by
  unfold placesI
  rw [List.pairwise_map]
  refine List.Pairwise.sublist (List.filter_sublist) ?_
  rw [List.pairwise_iff_getElem]
  intro i j hi hj hij
  simp; omega
/-- all sums from place 1 on are above 0; none is below 0 -/
def leadsB (r : List Int) : Bool := (List.range r.length).all fun k => decide (0 < (r.take (k + 1)).sum)
def standsB (r : List Int) : Bool := (List.range (r.length + 1)).all fun k => decide (0 ≤ (r.take k).sum)
theorem leadsB_iff {r : List Int} : leadsB r = true ↔ ∀ k, 1 ≤ k → k ≤ r.length → 0 < (r.take k).sum := by
  unfold leadsB
  rw [List.all_eq_true]
  constructor
  · intro h k h1 h2
    have := h (k - 1) (List.mem_range.mpr (by omega))
    rw [show k - 1 + 1 = k by omega] at this
    exact of_decide_eq_true this
  · intro h k hk
    have := List.mem_range.mp hk
    exact decide_eq_true (h (k + 1) (by omega) (by omega))
theorem standsB_iff {r : List Int} : standsB r = true ↔ ∀ k, k ≤ r.length → 0 ≤ (r.take k).sum := by
  unfold standsB
  rw [List.all_eq_true]
  constructor
  · intro h k h2
    exact of_decide_eq_true (h k (List.mem_range.mpr (by omega)))
  · intro h k hk
    have := List.mem_range.mp hk
    exact decide_eq_true (h k (by omega))
theorem dec_eq_of {p : Prop} [Decidable p] {b : Bool} (h : p ↔ b = true) : decide p = b := by
  cases b with
  | true => exact decide_eq_true (h.mpr rfl)
  | false => exact decide_eq_false fun z => Bool.false_ne_true (h.mp z)
/-! ### arithmetic on written numbers -/
@[simp] theorem smallI_nat {n : Nat} : smallI (no_index (OfNat.ofNat n : Int)) = decide (n < 2 ^ 64) := rfl
@[simp] theorem smallI_0 : smallI 0 = true := by decide
@[simp] theorem smallI_1 : smallI 1 = true := by decide
theorem smallI_of {i : Int} (h : -(2 ^ 63) ≤ i) (h2 : i ≤ 2 ^ 63) : smallI i = true := decide_eq_true (by omega)
@[simp] theorem smallI_emod {x m : Int} (h : 0 < m ∧ smallI m = true) : smallI (x % m) = true := by
  have h2 := of_decide_eq_true h.2
  have h3 := Int.emod_nonneg x (show m ≠ 0 by omega)
  have h4 := Int.emod_lt_of_pos x h.1
  exact decide_eq_true (by omega)
@[simp] theorem mulD_r {i j : Int} (h : smallI j = true) : mulD (.int i) (.int j) = some (.int (i * j)) := by
  show (if _ then _ else _) = _
  rw [if_pos (by rw [h]; simp)]
@[simp] theorem mulD_l {i j : Int} (h : smallI i = true) : mulD (.int i) (.int j) = some (.int (i * j)) := by
  show (if _ then _ else _) = _
  rw [if_pos (by rw [h]; simp)]
@[simp] theorem fdivD_ii {i j : Int} (h : 0 < j ∧ smallI j = true) : fdivD (.int i) (.int j) = some (.int (i / j)) := by
  show (if _ then _ else _) = _
  refine if_pos ⟨h.1, ?_⟩
  have h2 := of_decide_eq_true h.2
  have : j.natAbs.log2 < 64 := (Nat.log2_lt (by omega)).mpr h2
  omega
@[simp] theorem powD_ii {i j : Int} (h : 0 ≤ j ∧ j ≤ 1000000 ∧ i.natAbs < 2 ^ 64) : powD (.int i) (.int j) = some (.int (i ^ j.toNat)) := if_pos h
@[simp] theorem at3_0 {α : Type} {x y z : α} : L2.atI [x, y, z] 0 = some x := rfl
@[simp] theorem at3_1 {α : Type} {x y z : α} : L2.atI [x, y, z] 1 = some y := rfl
@[simp] theorem at3_2 {α : Type} {x y z : α} : L2.atI [x, y, z] 2 = some z := rfl
@[simp] theorem ix3_0 : L2.ixN 3 0 = some 0 := rfl
@[simp] theorem ix3_1 : L2.ixN 3 1 = some 1 := rfl
@[simp] theorem ix3_2 : L2.ixN 3 2 = some 2 := rfl
@[simp] theorem at2_0 {α : Type} {x y : α} : L2.atI [x, y] 0 = some x := rfl
@[simp] theorem at2_1 {α : Type} {x y : α} : L2.atI [x, y] 1 = some y := rfl
@[simp] theorem xSub_app {fo fi : Env' → M Val} {d : D} {ρ : Env'} {S : Store} : xSub fo fi d ρ S = (match fo ρ S with
  | .ok (.cell n) S1 => match fi ρ S1 with
    | .ok (.d (.int i)) S2 => match S2[n]? with
      | some (.lst xs) => (L2.ixN xs.length i).map fun j => (ρ, S2.set n (.lst (xs.set j d)))
      | _ => none
    | _ => none
  | _ => none) := rfl
@[simp] theorem xOf_app {b : TB} {d : D} {ρ : Env'} {S : Store} : xOf b d ρ S = (b d ρ).map fun ρ' => (ρ', S) := rfl
@[simp] theorem xTup_app {n : Nat} {c : TXs} {xs : List D} {ρ : Env'} {S : Store} : xTup n c (.tup xs) ρ S = if xs.length = n then c xs ρ S else none := rfl
@[simp] theorem xCons_app {b : TX} {c : TXs} {d : D} {r : List D} {ρ : Env'} {S : Store} : xCons b c (d :: r) ρ S = (b d ρ S).bind fun p => c r p.1 p.2 := rfl
@[simp] theorem xNil_app {ρ : Env'} {S : Store} : xNil [] ρ S = some (ρ, S) := rfl
/-! ### the pool of drawn numbers: a cell of three whole numbers -/
def Pool (n : Nat) (S : Store) : Prop := ∃ a b c : Int, S[n]? = some (.lst [.int a, .int b, .int c])
/-- the pool alone has changed -/
def Dr (n : Nat) (S S' : Store) : Prop := ∃ a b c : Int, S' = S.set n (.lst [.int a, .int b, .int c])
theorem Pool.lt {n : Nat} {S : Store} (h : Pool n S) : n < S.length := by
  obtain ⟨a, b, c, e⟩ := h
  exact (List.getElem?_eq_some_iff.mp e).1
theorem Pool.dr {n : Nat} {S S' : Store} (h : Pool n S) (d : Dr n S S') : Pool n S' := by
  obtain ⟨a, b, c, rfl⟩ := d
  exact ⟨a, b, c, List.getElem?_set_self h.lt⟩
theorem Dr.refl {n : Nat} {S : Store} (h : Pool n S) : Dr n S S := by
  obtain ⟨a, b, c, e⟩ := h
  refine ⟨a, b, c, ?_⟩
  obtain ⟨hn, e'⟩ := List.getElem?_eq_some_iff.mp e
  rw [← e', List.set_getElem_self]
theorem Dr.trans {n : Nat} {S S1 S2 : Store} (d : Dr n S S1) (k : Dr n S1 S2) : Dr n S S2 := by
  obtain ⟨a, b, c, rfl⟩ := d
  obtain ⟨a', b', c', rfl⟩ := k
  exact ⟨a', b', c', List.set_set _⟩
theorem Dr.len {n : Nat} {S S1 : Store} (d : Dr n S S1) : S1.length = S.length := by
  obtain ⟨a, b, c, rfl⟩ := d
  exact List.length_set
theorem Dr.other {n m : Nat} {S S1 : Store} (d : Dr n S S1) (h : n ≠ m) : S1[m]? = S[m]? := by
  obtain ⟨a, b, c, rfl⟩ := d
  exact List.getElem?_set_ne h
/-- a result that keeps the length ends a def as it is -/
theorem exit_len {n : Nat} {S' : Store} {v : Val} (h : S'.length = n) : exitV n v S' = .ok v S' := by unfold exitV; rw [if_pos h]
theorem Dr.exit {n : Nat} {S S1 : Store} {v : Val} (d : Dr n S S1) : exitV S.length v S1 = .ok v S1 := exit_len d.len
theorem All2.ints {α : Type} {Q : Int → Prop} : ∀ {xs : List α} {ys : List D}, All2 (fun _ y => ∃ v : Int, y = .int v ∧ Q v) xs ys → ∃ vs : List Int, ys = vs.map .int ∧ vs.length = xs.length ∧ ∀ v ∈ vs, Q v
  | _, _, .nil => ⟨[], rfl, rfl, fun v m => by cases m⟩
  | _, _, .cons ⟨v, e, q⟩ t => by
    obtain ⟨vs, e1, e2, e3⟩ := t.ints
    subst e e1
    exact ⟨v :: vs, rfl, by rw [List.length_cons, List.length_cons, e2], fun u m => (List.mem_cons.mp m).elim (fun e => by rw [e]; exact q) (e3 u)⟩
@[simp] theorem small62_of {i : Int} (h : -1000000000000 ≤ i ∧ i ≤ 1000000000000) : small62 i = true := decide_eq_true (by omega)
@[simp] theorem rngW_1 {j : Int} {S : Store} : rngW [.d (.int j)] S = if small62 j then .ok ⟨rngD 0 j.toNat, []⟩ S else .bad := rfl
@[simp] theorem rngW_2 {i j : Int} {S : Store} : rngW [.d (.int i), .d (.int j)] S = if small62 i && small62 j then .ok ⟨rngD i (j - i).toNat, []⟩ S else .bad := rfl
@[simp] theorem rngD_length {lo : Int} {n : Nat} : (rngD lo n).length = n := by simp [rngD]
theorem rngD_mem {lo : Int} {n : Nat} {x : D} : x ∈ rngD lo n ↔ ∃ i : Nat, i < n ∧ x = .int (lo + i) := by
  unfold rngD; rw [List.mem_map]
  exact ⟨fun ⟨i, h, e⟩ => ⟨i, List.mem_range.mp h, e.symm⟩, fun ⟨i, h, e⟩ => ⟨i, List.mem_range.mpr h, e.symm⟩⟩
theorem all_true {α : Type} (xs : List α) : allD [.lst (xs.map fun _ => .bl true)] = some (.bl true) := by
  have : xs.map (fun _ => D.bl true) = (xs.map fun _ => true).map .bl := by rw [List.map_map]; rfl
  rw [this, all_bls]
  congr 2
  simp
/-- nested data of bounded depth -/
def plainN : Nat → D → Bool
  | 0, _ => false
  | n + 1, d => match d with
    | .int _ => true
    | .bl _ => true
    | .non => true
    | .str _ => true
    | .tup xs => decide (xs.length ≤ 1000) && xs.all (plainN n)
    | .lst xs => decide (xs.length ≤ 1000) && xs.all (plainN n)
    | _ => false
@[simp] theorem plain_int {n : Nat} {i : Int} : plainN (n + 1) (.int i) = true := rfl
@[simp] theorem plain_bl {n : Nat} {i : Bool} : plainN (n + 1) (.bl i) = true := rfl
@[simp] theorem plain_non {n : Nat} : plainN (n + 1) .non = true := rfl
@[simp] theorem plain_str {n : Nat} {i : Str} : plainN (n + 1) (.str i) = true := rfl
@[simp] theorem plain_tup {n : Nat} {xs : List D} : plainN (n + 1) (.tup xs) = (decide (xs.length ≤ 1000) && xs.all (plainN n)) := rfl
@[simp] theorem plain_lst {n : Nat} {xs : List D} : plainN (n + 1) (.lst xs) = (decide (xs.length ≤ 1000) && xs.all (plainN n)) := rfl
theorem zip_self (xs : List D) : zipD xs xs = xs.map fun x => .tup [x, x] := by
  unfold zipD
  induction xs with
  | nil => rfl
  | cons x xs ih => rw [List.zipWith_cons_cons, List.map_cons, ih]
theorem eqD_ss {x : Str} : eqD (.str x) (.str x) = some (.bl true) := by
  simp [eqD, PyData.eqv]
theorem ite_ok_int {c : Prop} [Decidable c] {x y : Int} {S : Store} : (if c then Out.ok (Val.d (.int x)) S else Out.ok (Val.d (.int y)) S) = Out.ok (Val.d (.int (if c then x else y))) S := by split <;> rfl
theorem ite_ok_bl {c : Prop} [Decidable c] {x y : Bool} {S : Store} : (if c then Out.ok (Val.d (.bl x)) S else Out.ok (Val.d (.bl y)) S) = Out.ok (Val.d (.bl (if c then x else y))) S := by split <;> rfl
theorem ite_ok_bool {c : Prop} [Decidable c] {x y : Bool} {S : Store} : (if c then Out.ok x S else Out.ok y S) = Out.ok (if c then x else y) S := by split <;> rfl
theorem All2.trues {α : Type} : ∀ {xs : List α} {ys : List D}, All2 (fun _ y => y = .bl true) xs ys → ys = ys.map fun _ => .bl true
  | _, _, .nil => rfl
  | _, _, .cons e t => by rw [List.map_cons, ← t.trues, e]
theorem all_All2 {α : Type} {xs : List α} {ys : List D} (h : All2 (fun _ y => y = .bl true) xs ys) : allD [.lst ys] = some (.bl true) := by rw [h.trues]; exact all_true ys
theorem exit_d {n : Nat} {x : D} {S : Store} : ∃ S', exitV n (.d x) S = .ok (.d x) S' := by
  unfold exitV
  split
  · exact ⟨_, rfl⟩
  · exact ⟨_, rfl⟩
theorem pool_new {S : Store} {a b c : Int} : Pool S.length (S ++ [.lst [.int a, .int b, .int c]]) := ⟨a, b, c, by simp⟩
theorem next_ite {c : Prop} [Decidable c] {ρ ρ' : Env'} {S : Store} : (if c then SOut.next ρ S else SOut.next ρ' S) = SOut.next (if c then ρ else ρ') S := by split <;> rfl
theorem pick1 {x : Val} : pick [0] [x] = [x] := rfl
theorem pick2 {x y : Val} : pick [0, 1] [x, y] = [x, y] := rfl
theorem pick3 {x y z : Val} : pick [0, 1, 2] [x, y, z] = [x, y, z] := rfl
theorem at0 {α : Type} {x : α} {xs : List α} : L2.atI (x :: xs) 0 = some x := by rw [atI_of (by omega)]; rfl
@[simp] theorem addD_tt {a b : List D} : addD (.tup a) (.tup b) = if a.length + b.length ≤ 1000000 then some (.tup (a ++ b)) else none := rfl
@[simp] theorem addD_ll {a b : List D} : addD (.lst a) (.lst b) = if a.length + b.length ≤ 1000000 then some (.lst (a ++ b)) else none := rfl
theorem all_map {α : Type} {p : α → Bool} {xs : List α} : allD [.lst (xs.map fun x => .bl (p x))] = some (.bl (xs.all p)) := by
  have : xs.map (fun x => D.bl (p x)) = (xs.map p).map .bl := by rw [List.map_map]; rfl
  rw [this, all_bls, List.all_map]; rfl
theorem any_map {α : Type} {p : α → Bool} {xs : List α} : anyD [.lst (xs.map fun x => .bl (p x))] = some (.bl (xs.any p)) := by
  have : xs.map (fun x => D.bl (p x)) = (xs.map p).map .bl := by rw [List.map_map]; rfl
  rw [this, any_bls, List.any_map]; rfl
theorem plain_tupI {n : Nat} {ns : List Int} (h : ns.length ≤ 1000) : plainN (n + 2) (.tup (ns.map .int)) = true := by
  rw [plain_tup, Bool.and_eq_true]
  refine ⟨decide_eq_true (by rw [List.length_map]; exact h), ?_⟩
  rw [List.all_eq_true]
  intro d hd
  obtain ⟨i, _, rfl⟩ := List.mem_map.mp hd
  rfl
theorem plain_lstI {n : Nat} {ns : List Int} (h : ns.length ≤ 1000) : plainN (n + 2) (.lst (ns.map .int)) = true := by
  rw [plain_lst, Bool.and_eq_true]
  refine ⟨decide_eq_true (by rw [List.length_map]; exact h), ?_⟩
  rw [List.all_eq_true]
  intro d hd
  obtain ⟨i, _, rfl⟩ := List.mem_map.mp hd
  rfl
/-! the greatest and the least sum, their places, as functions -/
def hiS (r : List Int) : Int := (maxI (psums r)).getD 0
def loS (r : List Int) : Int := (minI (psums r)).getD 0
theorem hiS_eq (r : List Int) : maxI (psums r) = some (hiS r) := by
  obtain ⟨m, h, _⟩ := maxI_ok (psums_ne r)
  unfold hiS; rw [h]; rfl
theorem loS_eq (r : List Int) : minI (psums r) = some (loS r) := by
  obtain ⟨m, h, _⟩ := minI_ok (psums_ne r)
  unfold loS; rw [h]; rfl
theorem hiS_ok (r : List Int) : hiS r ∈ psums r ∧ ∀ y ∈ psums r, y ≤ hiS r := by
  obtain ⟨m, h, h1, h2⟩ := maxI_ok (psums_ne r)
  rw [hiS_eq r] at h; cases h; exact ⟨h1, h2⟩
theorem loS_ok (r : List Int) : loS r ∈ psums r ∧ ∀ y ∈ psums r, loS r ≤ y := by
  obtain ⟨m, h, h1, h2⟩ := minI_ok (psums_ne r)
  rw [loS_eq r] at h; cases h; exact ⟨h1, h2⟩
theorem hiS_uniq {r : List Int} {m : Int} (h1 : m ∈ psums r) (h2 : ∀ y ∈ psums r, y ≤ m) : hiS r = m := by
  have a := h2 _ (hiS_ok r).1
  have b := (hiS_ok r).2 _ h1
  omega
theorem loS_uniq {r : List Int} {m : Int} (h1 : m ∈ psums r) (h2 : ∀ y ∈ psums r, m ≤ y) : loS r = m := by
  have a := h2 _ (loS_ok r).1
  have b := (loS_ok r).2 _ h1
  omega
theorem places_ne {ns : List Int} {v : Int} (h : v ∈ ns) : placesI ns v ≠ [] := by
  obtain ⟨i, e⟩ := List.mem_iff_getElem?.mp h
  exact List.ne_nil_of_mem (placesI_mem.mpr ⟨i, rfl, e⟩)
/-- the first and the last place of a value -/
def firstP (ns : List Int) (v : Int) : Int := ((placesI ns v)[0]?).getD 0
def lastP (ns : List Int) (v : Int) : Int := ((placesI ns v).getLast?).getD 0
theorem firstP_eq {ns : List Int} {v : Int} (h : v ∈ ns) : (placesI ns v)[0]? = some (firstP ns v) := by
  have := List.length_pos_iff.mpr (places_ne h)
  unfold firstP; rw [List.getElem?_eq_getElem this]; rfl
theorem lastP_eq {ns : List Int} {v : Int} (h : v ∈ ns) : (placesI ns v).getLast? = some (lastP ns v) := by
  unfold lastP; rw [List.getLast?_eq_some_getLast (places_ne h)]; rfl
theorem firstP_ok {ns : List Int} {v : Int} (h : v ∈ ns) : ∃ q : Nat, firstP ns v = q ∧ ns[q]? = some v ∧ ∀ j : Nat, ns[j]? = some v → q ≤ j := by
  have h0 := firstP_eq h
  have hs := placesI_sorted ns v
  obtain ⟨q, e, hq⟩ := placesI_mem.mp (List.mem_of_getElem? h0)
  refine ⟨q, e, hq, fun j hj => ?_⟩
  have hm : (j : Int) ∈ placesI ns v := placesI_mem.mpr ⟨j, rfl, hj⟩
  cases hp : placesI ns v with
  | nil => rw [hp] at hm; cases hm
  | cons x xs =>
    rw [hp] at hs hm h0
    simp at h0
    rcases List.mem_cons.mp hm with e2 | hm
    · omega
    · have := (List.pairwise_cons.mp hs).1 _ hm
      omega
theorem lastP_ok {ns : List Int} {v : Int} (h : v ∈ ns) : ∃ q : Nat, lastP ns v = q ∧ ns[q]? = some v ∧ ∀ j : Nat, ns[j]? = some v → j ≤ q := by
  have h0 := lastP_eq h
  have hs := placesI_sorted ns v
  obtain ⟨q, e, hq⟩ := placesI_mem.mp (List.mem_of_getLast? h0)
  refine ⟨q, e, hq, fun j hj => ?_⟩
  have hm : (j : Int) ∈ placesI ns v := placesI_mem.mpr ⟨j, rfl, hj⟩
  obtain ⟨ys, e2⟩ := List.getLast?_eq_some_iff.mp h0
  rw [e2] at hs hm
  rcases List.mem_append.mp hm with m | m
  · have := (List.pairwise_append.mp hs).2.2 _ m _ (by simp; rfl)
    omega
  · simp at m; omega
theorem firstP_uniq {ns : List Int} {v : Int} {q : Nat} (h : ns[q]? = some v) (k : ∀ j : Nat, ns[j]? = some v → q ≤ j) : firstP ns v = q := by
  obtain ⟨p, e, h1, h2⟩ := firstP_ok (List.mem_of_getElem? h)
  have a := k p h1
  have b := h2 q h
  omega
theorem lastP_uniq {ns : List Int} {v : Int} {q : Nat} (h : ns[q]? = some v) (k : ∀ j : Nat, ns[j]? = some v → j ≤ q) : lastP ns v = q := by
  obtain ⟨p, e, h1, h2⟩ := lastP_ok (List.mem_of_getElem? h)
  have a := k p h1
  have b := h2 q h
  omega
/-! turned over, backwards -/
theorem psums_neg (r : List Int) : psums (r.map fun x => -x) = (psums r).map fun x => -x := by
  unfold psums
  rw [List.length_map, List.map_map]
  apply List.map_congr_left
  intro k _
  show ((r.map fun x => -x).take k).sum = -((r.take k).sum)
  rw [← List.map_take]
  generalize r.take k = l
  induction l with
  | nil => rfl
  | cons x l ih => rw [List.map_cons, List.sum_cons, List.sum_cons, ih]; omega
theorem take_drop_sum (r : List Int) (k : Nat) : (r.take k).sum + (r.drop k).sum = r.sum := by
  rw [← List.sum_append, List.take_append_drop]
theorem sum_rev : ∀ r : List Int, r.reverse.sum = r.sum
  | [] => rfl
  | x :: r => by rw [List.reverse_cons, List.sum_append, sum_rev r, List.sum_cons]; simp; omega
theorem take_rev (r : List Int) {k : Nat} (h : k ≤ r.length) : (r.reverse.take k).sum = r.sum - (r.take (r.length - k)).sum := by
  rw [List.take_reverse, sum_rev]
  have := take_drop_sum r (r.length - k)
  omega
@[simp] theorem at4_0 {α : Type} {x y z w : α} : L2.atI [x, y, z, w] 0 = some x := rfl
@[simp] theorem at4_1 {α : Type} {x y z w : α} : L2.atI [x, y, z, w] 1 = some y := rfl
@[simp] theorem at4_2 {α : Type} {x y z w : α} : L2.atI [x, y, z, w] 2 = some z := rfl
@[simp] theorem at4_3 {α : Type} {x y z w : α} : L2.atI [x, y, z, w] 3 = some w := rfl
end Dn

/-! Pl1: more plain lemmas. -/
namespace Dn
open PySem PySem.Spec PyProof.Rows L2
section
variable {ρ : Env'} {S : Store} {fa fb fo fx : Env' → M Val}
@[simp] theorem dNC_app {f : Env' → M (List D)} : dNC f ρ S = (f ρ S).bind fun xs S => .ok (.cell S.length) (S ++ [.lst xs]) := (rfl)
@[simp] theorem dTupN_app {f : Env' → M (List D)} : dTupN f ρ S = (f ρ S).bind tupOf := (rfl)
@[simp] theorem tupOf_app {xs : List D} : tupOf xs S = .ok (.d (.tup xs)) S := (rfl)
@[simp] theorem nRg1_app : nRg1 fa ρ S = (fa ρ S).bind fun a => rgA a := (rfl)
@[simp] theorem nRg2_app : nRg2 fa fb ρ S = (fa ρ S).bind fun a => M.bind (fb ρ) fun b => rgB a b := (rfl)
@[simp] theorem rgA_app {j : Int} : rgA (.d (.int j)) S = rgL 0 j S := (rfl)
@[simp] theorem rgB_app {i j : Int} : rgB (.d (.int i)) (.d (.int j)) S = rgL i j S := (rfl)
@[simp] theorem rgL_app {a b : Int} : rgL a b S = if -1000000 ≤ a ∧ a ≤ 1000000 ∧ -1000000 ≤ b ∧ b ≤ 1000000 then .ok (rngD a (b - a).toNat) S else .bad := by
  unfold rgL
  by_cases h : -1000000 ≤ a ∧ a ≤ 1000000 ∧ -1000000 ≤ b ∧ b ≤ 1000000
  · rw [if_pos (decide_eq_true h), if_pos h]
  · rw [if_neg (by simpa using h), if_neg h]
@[simp] theorem dPopAt_app : dPopAt fo fx ρ S = (fo ρ S).bind fun v => M.bind (lstC v) fun n => M.bind (fx ρ) fun a => popAtC n a := (rfl)
theorem popAtC_of {n : Nat} {xs : List D} {i : Int} {x : D} (h : S[n]? = some (.lst xs)) (h0 : 0 ≤ i) (h1 : i < 1000000000) (hx : xs[i.toNat]? = some x) : popAtC n (.d (.int i)) S = .ok (.d x) (S.set n (.lst (xs.eraseIdx i.toNat))) := by
  have hl := (List.getElem?_eq_some_iff.mp hx).1
  unfold popAtC
  rw [h]
  show (if small62 i = true then _ else _) = _
  rw [if_pos (small62_of (by omega))]
  have : seqIndex? i xs.length = some i.toNat := by
    unfold seqIndex?
    rw [if_neg (show ¬ i < 0 by omega)]
    show (if (decide (0 ≤ i) && decide (i < (xs.length : Int))) = true then some i.toNat else none) = _
    rw [if_pos (by simp; omega)]
  rw [this]
  show (match xs[i.toNat]? with | some x => _ | none => _) = _
  rw [hx]
end
theorem Dr.app {n : Nat} {S T S2 : Store} (hn : n < S.length) (d : Dr n (S ++ T) S2) : ∃ S1, Dr n S S1 ∧ S2 = S1 ++ T := by
  obtain ⟨a, b, c, rfl⟩ := d
  exact ⟨_, ⟨a, b, c, rfl⟩, List.set_append_left _ _ hn⟩
theorem Pool.app {n : Nat} {S T : Store} (h : Pool n S) : Pool n (S ++ T) := by
  have := h.lt
  obtain ⟨a, b, c, e⟩ := h
  exact ⟨a, b, c, by rw [List.getElem?_append_left this]; exact e⟩
end Dn
namespace Dn
open PySem PySem.Spec PyProof.Rows L2
/-! ### orders -/
def ordI (σ : List Nat) : List Int := σ.map fun i : Nat => (i : Int)
def inO (r : List Int) (σ : List Nat) : List Int := σ.map fun i => r.getD i 0
theorem ordI_length (σ : List Nat) : (ordI σ).length = σ.length := by simp [ordI]
theorem rngD_ord (n : Nat) : rngD 0 n = (ordI (List.range n)).map .int := by
  simp [rngD, ordI, Function.comp_def]
/-- a drawn order of 0 .. n - 1 -/
theorem perm_ord {ys : List D} {n : Nat} (h : ys.Perm ((ordI (List.range n)).map .int)) : ∃ σ : List Nat, σ.Perm (List.range n) ∧ ys = (ordI σ).map .int := by
  let f : D → Nat := fun d => match d with | .int i => i.toNat | _ => 0
  refine ⟨ys.map f, ?_, ?_⟩
  · have := h.map f
    have e : ((ordI (List.range n)).map D.int).map f = List.range n := by
      simp [ordI, f, Function.comp_def]
    rw [e] at this
    exact this
  · unfold ordI
    rw [List.map_map, List.map_map]
    conv => lhs; rw [← List.map_id ys]
    apply List.map_congr_left
    intro y hy
    have := h.mem_iff.mp hy
    simp [ordI] at this
    obtain ⟨i, hi, rfl⟩ := this
    simp [f]
theorem isort_perm {a b : List Int} (h : a.Perm b) : isort a = isort b := by
  have h1 : (isort a).Pairwise (· ≤ ·) := (List.pairwise_mergeSort (fun a b c h1 h2 => by simp at *; omega) (fun a b => by simp; omega) a).imp fun h => by simpa using h
  have h2 : (isort a).Perm a := List.mergeSort_perm a _
  exact isort_eq (h2.trans h) h1
theorem isort_ord {σ : List Nat} {n : Nat} (h : σ.Perm (List.range n)) : isort (ordI σ) = ordI (List.range n) := by
  refine (isort_eq (h.symm.map _) ?_).symm
  rw [List.pairwise_map]
  exact List.pairwise_lt_range.imp fun h => by omega
theorem inO_perm {r : List Int} {σ : List Nat} (h : σ.Perm (List.range r.length)) : (inO r σ).Perm r := by
  have e : inO r (List.range r.length) = r := by
    apply List.ext_getElem?
    intro i
    unfold inO
    rw [List.getElem?_map]
    by_cases hi : i < r.length
    · rw [List.getElem?_range hi]
      simp [List.getD, List.getElem?_eq_getElem hi]
    · rw [List.getElem?_eq_none (by simp; omega), List.getElem?_eq_none (by omega)]; rfl
  have := h.map fun i => r.getD i 0
  unfold inO at e
  rw [e] at this
  exact this
theorem inO_range (r : List Int) : inO r (List.range r.length) = r := by
  apply List.ext_getElem?
  intro i
  unfold inO
  rw [List.getElem?_map]
  by_cases hi : i < r.length
  · rw [List.getElem?_range hi]
    simp [List.getD, List.getElem?_eq_getElem hi]
  · rw [List.getElem?_eq_none (by simp; omega), List.getElem?_eq_none (by omega)]; rfl
theorem inO_reverse (r : List Int) (σ : List Nat) : inO r σ.reverse = (inO r σ).reverse := by simp [inO, List.map_reverse]
/-- one order behind another -/
def thenO (σ τ : List Nat) : List Nat := τ.map fun i => σ.getD i 0
theorem inO_inO {r : List Int} {σ τ : List Nat} (ht : ∀ i ∈ τ, i < σ.length) : inO (inO r σ) τ = inO r (thenO σ τ) := by
  unfold inO thenO
  rw [List.map_map]
  apply List.map_congr_left
  intro i hi
  have := ht i hi
  simp [List.getD, List.getElem?_eq_getElem this]
theorem thenO_perm {σ τ : List Nat} {n : Nat} (hs : σ.Perm (List.range n)) (ht : τ.Perm (List.range n)) : (thenO σ τ).Perm (List.range n) := by
  have e : thenO σ (List.range n) = σ := by
    have hl := hs.length_eq
    rw [List.length_range] at hl
    apply List.ext_getElem?
    intro i
    unfold thenO
    rw [List.getElem?_map]
    by_cases hi : i < n
    · rw [List.getElem?_range hi]
      simp [List.getD, List.getElem?_eq_getElem (show i < σ.length by omega)]
    · rw [List.getElem?_eq_none (by simp; omega), List.getElem?_eq_none (by omega)]; rfl
  have := ht.map fun i => σ.getD i 0
  unfold thenO at e
  rw [e] at this
  exact this.trans hs
theorem erase_perm {α : Type} : ∀ {l : List α} {i : Nat} (h : i < l.length), (l[i] :: l.eraseIdx i).Perm l
  | x :: l, 0, _ => by simp
  | x :: l, i + 1, h => by
    have := erase_perm (l := l) (i := i) (by simpa using h)
    simp only [List.getElem_cons_succ, List.eraseIdx_cons_succ]
    exact (List.Perm.swap _ _ _).trans (this.cons x)
theorem perm_sum {r t : List Int} (h : t.Perm r) : t.sum = r.sum := by
  induction h with
  | nil => rfl
  | cons x _ ih => simp [ih]
  | swap x y l => simp; omega
  | trans _ _ a b => exact a.trans b
theorem psums_reverse (r : List Int) : psums r.reverse = (psums r).reverse.map fun x => r.sum - x := by
  apply List.ext_getElem?
  intro k
  rw [List.getElem?_map]
  by_cases hk : k ≤ r.length
  · rw [psums_get (by simpa using hk), List.getElem?_reverse (by simp; omega), psums_length, show r.length + 1 - 1 - k = r.length - k by omega, psums_get (by omega)]
    have : r.sum = (r.take (r.length - k)).sum + (r.drop (r.length - k)).sum := by rw [← List.sum_append, List.take_append_drop]
    rw [Option.map_some, List.take_reverse, perm_sum (List.reverse_perm _)]
    congr 1
    omega
  · rw [List.getElem?_eq_none (by simp; omega), List.getElem?_eq_none (by simp; omega)]; rfl
theorem neg_row {r : List Int} (R : Row r) : Row (r.map fun x => -x) := ⟨by simpa using R.1, by simpa using R.2.1, fun x m => by
  obtain ⟨y, hy, rfl⟩ := List.mem_map.mp m
  have := R.2.2 y hy
  omega⟩
theorem rev_row {r : List Int} (R : Row r) : Row r.reverse := ⟨by simpa using R.1, by simpa using R.2.1, fun x m => R.2.2 x (List.mem_reverse.mp m)⟩
theorem perm_row {r t : List Int} (h : t.Perm r) (R : Row r) : Row t := ⟨by rw [h.length_eq]; exact R.1, by rw [h.length_eq]; exact R.2.1, fun x m => R.2.2 x (h.mem_iff.mp m)⟩
end Dn
namespace Dn
open PySem PySem.Spec PyProof.Rows L2
/-! ### the least and the greatest first sums of a row's orders -/
theorem least_sum : ∀ (s t u : List Int), s.Pairwise (· ≤ ·) → (t ++ u).Perm s → (s.take t.length).sum ≤ t.sum
  | [], t, u, _, h => by
    have := h.length_eq
    simp at this
    rw [this.1]; simp
  | x :: s, [], u, _, _ => by simp
  | x :: s, y :: t, u, hs, h => by
    rw [List.pairwise_cons] at hs
    by_cases hx : x ∈ y :: t
    · have p : (y :: t).Perm (x :: (y :: t).erase x) := List.perm_cons_erase hx
      have hl : ((y :: t).erase x).length = t.length := by rw [List.length_erase_of_mem hx]; simp
      have q : ((y :: t).erase x ++ u).Perm s := ((p.append_right u).symm.trans h).cons_inv
      have := least_sum s _ u hs.2 q
      rw [perm_sum p, List.sum_cons, List.length_cons, List.take_succ_cons, List.sum_cons]
      rw [hl] at this
      omega
    · have hu : x ∈ u := by
        have := h.symm.mem_iff.mp (List.mem_cons_self (a := x) (l := s))
        rcases List.mem_append.mp this with m | m
        · exact absurd m hx
        · exact m
      have p : u.Perm (x :: u.erase x) := List.perm_cons_erase hu
      have q1 : ((y :: t) ++ u).Perm (x :: ((y :: t) ++ u.erase x)) := (p.append_left (y :: t)).trans List.perm_middle
      have q : ((y :: t) ++ u.erase x).Perm s := (q1.symm.trans h).cons_inv
      have q2 : (t ++ y :: u.erase x).Perm s := List.perm_middle.trans q
      have := least_sum s t _ hs.2 q2
      have hy : x ≤ y := hs.1 y (q.mem_iff.mp (by simp))
      simp only [List.length_cons, List.take_succ_cons, List.sum_cons]
      omega
theorem isort_pw (r : List Int) : (isort r).Pairwise (· ≤ ·) := (List.pairwise_mergeSort (fun a b c h1 h2 => by simp at *; omega) (fun a b => by simp; omega) r).imp fun h => by simpa using h
theorem isort_p (r : List Int) : (isort r).Perm r := List.mergeSort_perm r _
theorem rising_least {r t : List Int} (h : t.Perm r) {k : Nat} (hk : k ≤ r.length) : ((isort r).take k).sum ≤ (t.take k).sum := by
  have := least_sum (isort r) (t.take k) (t.drop k) (isort_pw r) (by rw [List.take_append_drop]; exact h.trans (isort_p r).symm)
  rwa [List.length_take, Nat.min_eq_left (by rw [h.length_eq]; exact hk)] at this
theorem falling_most {r t : List Int} (h : t.Perm r) {k : Nat} (hk : k ≤ r.length) : (t.take k).sum ≤ ((isort r).reverse.take k).sum := by
  have hl := h.length_eq
  have il := (isort_p r).length_eq
  have a := least_sum (isort r) (t.drop k) (t.take k) (isort_pw r) (by
    exact (List.perm_append_comm.trans (by rw [List.take_append_drop])).trans (h.trans (isort_p r).symm))
  rw [List.length_drop, hl] at a
  rw [take_rev _ (by omega), il, perm_sum (isort_p r), ← perm_sum h]
  have := take_drop_sum t k
  omega
/-- how many first sums are above 0 -/
def aboveK (r : List Int) : Nat := ((psums r).filter fun x => decide (0 < x)).length
theorem aboveK_eq (r : List Int) : aboveK r = (List.range (r.length + 1)).countP fun k => decide (0 < (r.take k).sum) := by
  unfold aboveK psums
  rw [List.filter_map, List.length_map, List.countP_eq_length_filter]
  rfl
theorem above_rising {r t : List Int} (h : t.Perm r) : aboveK (isort r) ≤ aboveK t := by
  rw [aboveK_eq, aboveK_eq, (isort_p r).length_eq, h.length_eq]
  refine List.countP_mono_left fun k hk hp => ?_
  have := rising_least h (k := k) (by have := List.mem_range.mp hk; omega)
  simp at hp ⊢
  omega
theorem above_falling {r t : List Int} (h : t.Perm r) : aboveK t ≤ aboveK (isort r).reverse := by
  rw [aboveK_eq, aboveK_eq, List.length_reverse, (isort_p r).length_eq, h.length_eq]
  refine List.countP_mono_left fun k hk hp => ?_
  have := falling_most h (k := k) (by have := List.mem_range.mp hk; omega)
  simp at hp ⊢
  omega
theorem above_rest (r : List Int) : (((psums r).drop 1).filter fun x => decide (0 < x)).length = aboveK r := by
  unfold aboveK psums
  rw [List.range_succ_eq_map]
  simp
/-! ### every order -/
theorem perm_map {α β : Type} {f : α → β} : ∀ {u t : List β}, u.Perm t → ∀ l : List α, l.map f = u → ∃ l' : List α, l'.Perm l ∧ l'.map f = t := by
  intro u t h
  induction h with
  | nil => intro l e; exact ⟨l, .refl _, e⟩
  | cons x _ ih =>
    intro l e
    cases l with
    | nil => cases e
    | cons a l =>
      injection e with e1 e2
      obtain ⟨l', p, q⟩ := ih l e2
      exact ⟨a :: l', p.cons a, by rw [List.map_cons, q, e1]⟩
  | swap x y s =>
    intro l e
    match l, e with
    | a :: b :: l, e =>
      injection e with e1 e2
      injection e2 with e2 e3
      exact ⟨b :: a :: l, List.Perm.swap _ _ _, by rw [List.map_cons, List.map_cons, e1, e2, e3]⟩
  | trans _ _ a b =>
    intro l e
    obtain ⟨l1, p1, q1⟩ := a l e
    obtain ⟨l2, p2, q2⟩ := b l1 q1
    exact ⟨l2, p2.trans p1, q2⟩
theorem order_of {r t : List Int} (h : t.Perm r) : ∃ σ : List Nat, σ.Perm (List.range r.length) ∧ inO r σ = t := perm_map (f := fun i => r.getD i 0) h.symm (List.range r.length) (inO_range r)
theorem pigeon {α : Type} [BEq α] [LawfulBEq α] : ∀ {l m : List α}, l.Nodup → (∀ x ∈ l, x ∈ m) → m.length ≤ l.length → l.Perm m
  | [], m, _, _, h => by
    have : m = [] := List.length_eq_zero_iff.mp (by simpa using h)
    rw [this]
  | a :: l, m, hn, hs, hl => by
    rw [List.nodup_cons] at hn
    have ha := hs a List.mem_cons_self
    have p : m.Perm (a :: m.erase a) := List.perm_cons_erase ha
    have := p.length_eq
    refine ((pigeon (l := l) (m := m.erase a) hn.2 (fun x hx => ?_) (by simp at *; omega)).cons a).trans p.symm
    exact (List.mem_erase_of_ne (fun e => hn.1 (by rw [← e]; exact hx))).mpr (hs x (List.mem_cons_of_mem _ hx))
def stepO (m : Nat) (σ : List Nat) : List (List Nat) := ((List.range m).filter fun i => !σ.contains i).map fun i => σ ++ [i]
def ordersN (m : Nat) : Nat → List (List Nat)
  | 0 => [[]]
  | k + 1 => (ordersN m k).flatMap (stepO m)
theorem ordersN_mem {m : Nat} : ∀ {k : Nat} {σ : List Nat}, σ ∈ ordersN m k ↔ σ.length = k ∧ σ.Nodup ∧ ∀ i ∈ σ, i < m
  | 0, σ => by
    unfold ordersN
    rw [List.mem_singleton]
    constructor
    · rintro rfl; simp
    · rintro ⟨h, _⟩; exact List.length_eq_zero_iff.mp h
  | k + 1, σ => by
    unfold ordersN
    rw [List.mem_flatMap]
    constructor
    · rintro ⟨τ, h1, h2⟩
      obtain ⟨a, b, c⟩ := ordersN_mem.mp h1
      unfold stepO at h2
      obtain ⟨i, hi, rfl⟩ := List.mem_map.mp h2
      obtain ⟨hi1, hi2⟩ := List.mem_filter.mp hi
      have hi1 := List.mem_range.mp hi1
      have hi2 : i ∉ τ := by simpa using hi2
      refine ⟨by simp [a], ?_, fun j hj => ?_⟩
      · rw [List.nodup_append]
        exact ⟨b, by simp, fun x hx y hy => by simp at hy; subst hy; exact fun e => hi2 (e ▸ hx)⟩
      · rcases List.mem_append.mp hj with q | q
        · exact c j q
        · simp at q; omega
    · rintro ⟨a, b, c⟩
      obtain ⟨τ, i, rfl⟩ : ∃ τ i, σ = τ ++ [i] := by
        have : σ ≠ [] := by intro e; rw [e] at a; cases a
        exact ⟨σ.dropLast, σ.getLast this, (List.dropLast_concat_getLast this).symm⟩
      rw [List.nodup_append] at b
      refine ⟨τ, ordersN_mem.mpr ⟨by simpa using a, b.1, fun j hj => c j (List.mem_append_left _ hj)⟩, ?_⟩
      unfold stepO
      refine List.mem_map.mpr ⟨i, List.mem_filter.mpr ⟨List.mem_range.mpr (c i (by simp)), ?_⟩, rfl⟩
      have : i ∉ τ := fun hm => b.2.2 i hm i (by simp) rfl
      simpa using this
theorem ordersN_perm {m : Nat} {σ : List Nat} : σ ∈ ordersN m m ↔ σ.Perm (List.range m) := by
  rw [ordersN_mem]
  constructor
  · rintro ⟨a, b, c⟩
    exact pigeon b (fun x hx => List.mem_range.mpr (c x hx)) (by simp [a])
  · intro h
    exact ⟨by simpa using h.length_eq, h.nodup_iff.mpr List.nodup_range, fun i hi => List.mem_range.mp (h.mem_iff.mp hi)⟩
end Dn
namespace Dn
open PySem PySem.Spec PyProof.Rows L2
theorem any_eqv {i : Int} {ns : List Int} : (ns.any ((fun y => y.eqv (PyData.int i)) ∘ PyData.int)) = decide (i ∈ ns) := by
  induction ns with
  | nil => simp
  | cons x ns ih =>
    rw [List.any_cons, ih]
    simp only [Function.comp, PyData.eqv, List.mem_cons, Bool.decide_or]
    congr 1
    by_cases h : x = i
    · subst h; simp
    · simp [h, show ¬ i = x from fun e => h e.symm]
theorem inB_it {i : Int} {ns : List Int} : inB (.int i) (.tup (ns.map .int)) = some (decide (i ∈ ns)) := by
  simp [inB, PyData.depth, any_eqv]
theorem inB_il {i : Int} {ns : List Int} : inB (.int i) (.lst (ns.map .int)) = some (decide (i ∈ ns)) := by
  simp [inB, PyData.depth, any_eqv]
@[simp] theorem inD_it {i : Int} {ns : List Int} : inD (.int i) (.tup (ns.map .int)) = some (.bl (decide (i ∈ ns))) := by simp [inD, inB_it]
@[simp] theorem inD_il {i : Int} {ns : List Int} : inD (.int i) (.lst (ns.map .int)) = some (.bl (decide (i ∈ ns))) := by simp [inD, inB_il]
@[simp] theorem notInD_it {i : Int} {ns : List Int} : notInD (.int i) (.tup (ns.map .int)) = some (.bl (!decide (i ∈ ns))) := by simp [notInD, inB_it]
@[simp] theorem notInD_il {i : Int} {ns : List Int} : notInD (.int i) (.lst (ns.map .int)) = some (.bl (!decide (i ∈ ns))) := by simp [notInD, inB_il]
theorem step_length (m : Nat) (l : List (List Nat)) : (l.flatMap (stepO m)).length ≤ l.length * m := by
  induction l with
  | nil => simp
  | cons a l ih =>
    have : (stepO m a).length ≤ m := by
      unfold stepO
      rw [List.length_map]
      exact Nat.le_trans (List.length_filter_le _ _) (by simp)
    rw [List.flatMap_cons, List.length_append, List.length_cons, Nat.add_mul, Nat.one_mul]
    omega
theorem ordersN_length {m : Nat} (hm : m ≤ 5) : ∀ k, (ordersN m k).length ≤ 5 ^ k
  | 0 => by simp [ordersN]
  | k + 1 => by
    have h1 := step_length m (ordersN m k)
    have h2 := ordersN_length hm k
    have : (ordersN m k).length * m ≤ 5 ^ k * 5 := Nat.mul_le_mul h2 hm
    rw [Nat.pow_succ]
    exact Nat.le_trans h1 this
end Dn

/-! Pl2: two fors in one comprehension; `is` of truths; a < b < c < d. -/
namespace Dn
open PySem PySem.Spec PyProof.Rows L2
section
variable {ρ : Env'} {S : Store} {fa fb fc fd : Env' → M Val} {v w : Val}
@[simp] theorem isBl_d {x y : Bool} : isBlD (.bl x) (.bl y) = some (.bl (decide (x = y))) := (rfl)
@[simp] theorem notBl_d {x y : Bool} : notBlD (.bl x) (.bl y) = some (.bl (!decide (x = y))) := (rfl)
@[simp] theorem dChain3_app {o o' o'' : D → D → Option D} : dChain3 o o' o'' fa fb fc fd ρ S = (fa ρ S).bind fun a => M.bind (fb ρ) fun b => op4 o o' o'' a b (fc ρ) (fd ρ) := (rfl)
@[simp] theorem op4_app {o o' o'' : D → D → Option D} {m m' : M Val} : op4 o o' o'' v w m m' S = (op2 o v w S).bind fun z => M.bind (isBl z) fun k => op4k o' o'' w m m' k := (rfl)
@[simp] theorem op4k_app {o o' : D → D → Option D} {m m' : M Val} {k : Bool} : op4k o o' w m m' k S = if k = true then (m S).bind (fun c => op3 o o' w c m') else .ok (.d (.bl false)) S := (rfl)
end
theorem lcI_run {α : Type} {S0 : Store} {w : Walk} {b : TB} {c : Env' → M Bool} {el : Env' → M Val} {ρ : Env'} {k : M (List D)} (emb : α → D) (p : α → Bool) (f : α → D) (hl : ∀ T, w.live T) :
    ∀ (xs : List α) (acc : List D), acc.length + xs.length ≤ 1000000 → (∀ x ∈ xs, ∀ T : List D, ∃ ρ1, b (emb x) ρ = some ρ1 ∧ c ρ1 (S0 ++ [.lst T]) = .ok (p x) (S0 ++ [.lst T]) ∧ (p x = true → el ρ1 (S0 ++ [.lst T]) = .ok (.d (f x)) (S0 ++ [.lst T]))) →
      lcI S0.length w b c el ρ k (xs.map emb) (S0 ++ [.lst acc]) = k (S0 ++ [.lst (acc ++ (xs.filter p).map f)])
  | [], acc, _, _ => by
    show lcI S0.length w b c el ρ k [] (S0 ++ [.lst acc]) = _
    unfold lcI
    rw [if_pos (hl _)]; simp
  | x :: xs, acc, hz, h => by
    obtain ⟨ρ1, h1, h2, h3⟩ := h x List.mem_cons_self acc
    rw [List.map_cons]
    conv => lhs; unfold lcI
    rw [if_pos (hl _), h1]
    show (c ρ1 _).bnd _ = _
    rw [h2]
    show (if p x = true then _ else _) = _
    rw [List.length_cons] at hz
    cases hp : p x with
    | true =>
      rw [if_pos rfl, h3 hp]
      show ((appC S0.length (.d (f x)) (S0 ++ [.lst acc])).bnd _) = _
      rw [appC_app, last_get]
      show ((if acc.length < 1000000 then _ else _ : Out Val).bnd _) = _
      rw [if_pos (by omega), last_set]
      show lcI S0.length w b c el ρ k (xs.map emb) (S0 ++ [.lst (acc ++ [f x])]) = _
      rw [lcI_run emb p f hl xs (acc ++ [f x]) (by rw [List.length_append, List.length_singleton]; omega) fun y m => h y (List.mem_cons_of_mem _ m)]
      rw [List.filter_cons_of_pos hp, List.map_cons, List.append_assoc]; rfl
    | false =>
      rw [if_neg Bool.false_ne_true, lcI_run emb p f hl xs acc (by omega) fun y m => h y (List.mem_cons_of_mem _ m)]
      rw [List.filter_cons_of_neg (by rw [hp]; exact Bool.false_ne_true)]
theorem lcO_run {α β : Type} {S0 : Store} {w : Walk} {b b1 : TB} {c c1 : Env' → M Bool} {f1 : Env' → M Walk} {el : Env' → M Val} {vs1 : List Nat} {ρ : Env'} (emb : α → D) (p : α → Bool) (ys : α → List β) (emb1 : β → D) (q : α → β → Bool) (f : α → β → D) (hl : ∀ T, w.live T) :
    ∀ (xs : List α) (acc : List D), acc.length + (xs.flatMap ys).length ≤ 1000000 → (∀ x ∈ xs, ∀ T : List D, ∃ ρ1, b (emb x) ρ = some ρ1 ∧ c ρ1 (S0 ++ [.lst T]) = .ok (p x) (S0 ++ [.lst T]) ∧ (p x = true → f1 ρ1 (S0 ++ [.lst T]) = .ok ⟨(ys x).map emb1, []⟩ (S0 ++ [.lst T]) ∧
        ∀ y ∈ ys x, ∀ T : List D, ∃ ρ2, b1 (emb1 y) (wipeE ρ1 vs1) = some ρ2 ∧ c1 ρ2 (S0 ++ [.lst T]) = .ok (q x y) (S0 ++ [.lst T]) ∧ (q x y = true → el ρ2 (S0 ++ [.lst T]) = .ok (.d (f x y)) (S0 ++ [.lst T])))) →
      lcO S0.length w b c f1 b1 c1 el vs1 ρ (xs.map emb) (S0 ++ [.lst acc]) = .ok (acc ++ (xs.filter p).flatMap fun x => ((ys x).filter (q x)).map (f x)) S0
  | [], acc, _, _ => by
    show lcO S0.length w b c f1 b1 c1 el vs1 ρ [] (S0 ++ [.lst acc]) = _
    unfold lcO
    rw [if_pos (hl _)]
    unfold takeC
    rw [if_pos (by simp), last_get]
    simp
  | x :: xs, acc, hz, h => by
    obtain ⟨ρ1, h1, h2, h3⟩ := h x List.mem_cons_self acc
    rw [List.flatMap_cons, List.length_append] at hz
    rw [List.map_cons]
    conv => lhs; unfold lcO
    rw [if_pos (hl _), h1]
    show (c ρ1 _).bnd _ = _
    rw [h2]
    show (if p x = true then _ else _) = _
    cases hp : p x with
    | true =>
      rw [if_pos rfl]
      obtain ⟨h4, h5⟩ := h3 hp
      rw [h4]
      show lcI S0.length ⟨(ys x).map emb1, []⟩ b1 c1 el (wipeE ρ1 vs1) (lcO S0.length w b c f1 b1 c1 el vs1 ρ (xs.map emb)) ((ys x).map emb1) (S0 ++ [.lst acc]) = _
      rw [lcI_run emb1 (q x) (f x) (fun _ => live_nil) (ys x) acc (by omega) h5]
      have := List.length_filter_le (q x) (ys x)
      rw [lcO_run emb p ys emb1 q f hl xs _ (by rw [List.length_append, List.length_map]; omega) fun y m => h y (List.mem_cons_of_mem _ m)]
      rw [List.filter_cons_of_pos hp, List.flatMap_cons, List.append_assoc]
    | false =>
      rw [if_neg Bool.false_ne_true, lcO_run emb p ys emb1 q f hl xs acc (by omega) fun y m => h y (List.mem_cons_of_mem _ m)]
      rw [List.filter_cons_of_neg (by rw [hp]; exact Bool.false_ne_true)]
/-- two fors, no state is changed -/
theorem lc2_run {α β : Type} {S : Store} {fi f1 : Env' → M Walk} {b b1 : TB} {c c1 : Env' → M Bool} {el : Env' → M Val} {vs vs1 : List Nat} {ρ : Env'} (xs : List α) (emb : α → D) (p : α → Bool) (ys : α → List β) (emb1 : β → D) (q : α → β → Bool) (f : α → β → D)
    (hi : fi ρ S = .ok ⟨xs.map emb, []⟩ S) (hz : (xs.flatMap ys).length ≤ 1000000) (h : ∀ x ∈ xs, ∀ T : List D, ∃ ρ1, b (emb x) (wipeE ρ vs) = some ρ1 ∧ c ρ1 (S ++ [.lst T]) = .ok (p x) (S ++ [.lst T]) ∧ (p x = true → f1 ρ1 (S ++ [.lst T]) = .ok ⟨(ys x).map emb1, []⟩ (S ++ [.lst T]) ∧
        ∀ y ∈ ys x, ∀ T : List D, ∃ ρ2, b1 (emb1 y) (wipeE ρ1 vs1) = some ρ2 ∧ c1 ρ2 (S ++ [.lst T]) = .ok (q x y) (S ++ [.lst T]) ∧ (q x y = true → el ρ2 (S ++ [.lst T]) = .ok (.d (f x y)) (S ++ [.lst T])))) :
    nLc2 fi b c f1 b1 c1 el vs vs1 ρ S = .ok ((xs.filter p).flatMap fun x => ((ys x).filter (q x)).map (f x)) S := by
  unfold nLc2 M.bind
  rw [hi]
  show lcO S.length ⟨xs.map emb, []⟩ b c f1 b1 c1 el vs1 (wipeE ρ vs) (xs.map emb) (S ++ [.lst []]) = _
  rw [lcO_run emb p ys emb1 q f (fun _ => live_nil) xs [] (by simpa using hz) h]
  rfl
end Dn

/-! Pl3: dicts of ints in cells. -/
namespace Dn
open PySem PySem.Spec PyProof.Rows L2
section
variable {ρ : Env'} {S : Store} {fo fk fx fv : Env' → M Val} {v w : Val}
@[simp] theorem dNewD_app : dNewD ρ S = .ok (.cell S.length) (S ++ [.dct [] []]) := (rfl)
@[simp] theorem dNewD1_app {i j : Int} : dNewD1 i j ρ S = .ok (.cell S.length) (S ++ [.dct [.int i] [.int j]]) := (rfl)
@[simp] theorem dGetD_app : dGetD fo fk ρ S = (fo ρ S).bind fun o => M.bind (fk ρ) fun k => getC o k := (rfl)
@[simp] theorem dGetD2_app : dGetD2 fo fk fx ρ S = (fo ρ S).bind fun o => M.bind (isDc o) fun _ => M.bind (fk ρ) fun k => M.bind (fx ρ) fun x => getC2 o k x := (rfl)
@[simp] theorem isDc_app : isDc v S = if (dctOf v S).isSome = true then .ok () S else .bad := (rfl)
@[simp] theorem sPutD_app : sPutD fo fk fv ρ S = (fv ρ S).st ρ fun v ρ' S' => (fo ρ' S').st ρ' fun o ρ' S' => (fk ρ' S').st ρ' fun k ρ' S' => putC o k v ρ' S' := (rfl)
@[simp] theorem dIsi2_app {n1 n2 : String} {f : Env' → M Val} : dIsi2 n1 n2 f ρ S = (f ρ S).bind fun v => isi2C n1 n2 v := (rfl)
@[simp] theorem isi2C_app {n1 n2 : String} : isi2C n1 n2 v S = (match rd v S with
  | some d => (match isiB d n1, isiB d n2 with
    | some b1, some b2 => .ok (.d (.bl (b1 || b2))) S
    | _, _ => .bad)
  | none => .bad) := (rfl)
@[simp] theorem dCount_app : dCount fo fx ρ S = (fo ρ S).bind fun v => M.bind (isLst v) fun _ => M.bind (fx ρ) fun a => cntC v a := (rfl)
@[simp] theorem isLst_l {xs : List D} : isLst (.d (.lst xs)) S = .ok () S := (rfl)
@[simp] theorem cntC_l {ns : List Int} {k : Int} : cntC (.d (.lst (ns.map .int))) (.d (.int k)) S = .ok (.d (.int (ns.count k : Nat))) S := by
  show (match intsD (ns.map .int) with | some ns => (.ok (.d (.int (ns.count k : Nat))) S : Out Val) | none => .bad) = _
  rw [intsD_map]
end
/-! ### pairs -/
def gA : List (Int × Int) → Int → Int
  | [], _ => 0
  | q :: r, k => if q.1 = k then q.2 else gA r k
def pA : List (Int × Int) → Int → Int → List (Int × Int)
  | [], k, v => [(k, v)]
  | q :: r, k, v => if q.1 = k then (q.1, v) :: r else q :: pA r k v
def ksA (A : List (Int × Int)) : List D := A.map fun q => .int q.1
def vsA (A : List (Int × Int)) : List D := A.map fun q => .int q.2
def dA (A : List (Int × Int)) : Cell := .dct (ksA A) (vsA A)
def fzA (A : List (Int × Int)) : Cell := .fzd (ksA A) (vsA A)
def keysA (A : List (Int × Int)) : List Int := A.map (·.1)
theorem isK_A (A : List (Int × Int)) : isK (ksA A) = true := by cases A <;> rfl
theorem lookD_A (k : Int) : ∀ A : List (Int × Int), lookD (.int k) (ksA A) (vsA A) = if k ∈ keysA A then some (.int (gA A k)) else none
  | [] => rfl
  | q :: r => by
    have ih := lookD_A k r
    show (if decide (q.1 = k) = true then some (.int q.2) else lookD (.int k) (ksA r) (vsA r)) = _
    by_cases h : q.1 = k
    · rw [if_pos (decide_eq_true h), if_pos (by show k ∈ q.1 :: keysA r; rw [h]; exact List.mem_cons_self)]
      show _ = some (D.int (if q.1 = k then q.2 else gA r k))
      rw [if_pos h]
    · rw [if_neg (by simpa using h), ih]
      have e : (k ∈ keysA (q :: r)) = (k ∈ keysA r) := propext ⟨fun m => (List.mem_cons.mp m).elim (fun z => absurd z.symm h) id, List.mem_cons_of_mem _⟩
      show _ = if k ∈ keysA (q :: r) then some (D.int (if q.1 = k then q.2 else gA r k)) else none
      rw [if_neg h]
      by_cases m : k ∈ keysA r
      · rw [if_pos m, if_pos (e ▸ m)]
      · rw [if_neg m, if_neg (fun z => m (e ▸ z))]
theorem gA_none {k : Int} : ∀ {A : List (Int × Int)}, k ∉ keysA A → gA A k = 0
  | [], _ => rfl
  | q :: r, h => by
    show (if q.1 = k then q.2 else gA r k) = 0
    rw [if_neg (fun z => h (by show k ∈ q.1 :: keysA r; rw [z]; exact List.mem_cons_self))]
    exact gA_none fun m => h (List.mem_cons_of_mem _ m)
theorem gA_pA (k v e : Int) : ∀ A : List (Int × Int), gA (pA A k v) e = if e = k then v else gA A e
  | [] => by
    show (if k = e then v else 0) = _
    by_cases h : e = k
    · rw [if_pos h, if_pos h.symm]
    · rw [if_neg h, if_neg (fun z => h z.symm)]; rfl
  | q :: r => by
    have ih := gA_pA k v e r
    show gA (if q.1 = k then (q.1, v) :: r else q :: pA r k v) e = if e = k then v else (if q.1 = e then q.2 else gA r e)
    by_cases h : q.1 = k
    · rw [if_pos h]
      show (if q.1 = e then v else gA r e) = _
      by_cases h2 : e = k
      · rw [if_pos h2, if_pos (h.trans h2.symm)]
      · rw [if_neg h2, if_neg (fun z => h2 (z.symm.trans h)), if_neg (fun z => h2 (z.symm.trans h))]
    · rw [if_neg h]
      show (if q.1 = e then q.2 else gA (pA r k v) e) = _
      rw [ih]
      by_cases h2 : q.1 = e
      · rw [if_pos h2, if_pos h2, if_neg (fun z => h (h2.trans z))]
      · rw [if_neg h2, if_neg h2]
theorem keys_pA (k v : Int) : ∀ A : List (Int × Int), keysA (pA A k v) = if k ∈ keysA A then keysA A else keysA A ++ [k]
  | [] => rfl
  | q :: r => by
    have ih := keys_pA k v r
    show keysA (if q.1 = k then (q.1, v) :: r else q :: pA r k v) = _
    by_cases h : q.1 = k
    · rw [if_pos h, if_pos (by show k ∈ q.1 :: keysA r; rw [h]; exact List.mem_cons_self)]; rfl
    · rw [if_neg h]
      show q.1 :: keysA (pA r k v) = if k ∈ q.1 :: keysA r then q.1 :: keysA r else (q.1 :: keysA r) ++ [k]
      rw [ih]
      by_cases m : k ∈ keysA r
      · rw [if_pos m, if_pos (List.mem_cons_of_mem _ m)]
      · rw [if_neg m, if_neg (fun z => (List.mem_cons.mp z).elim (fun z => h z.symm) m)]; rfl
theorem nodup_pA {k v : Int} {A : List (Int × Int)} (h : (keysA A).Nodup) : (keysA (pA A k v)).Nodup := by
  rw [keys_pA]
  split
  · exact h
  · rename_i m
    rw [List.nodup_append]
    exact ⟨h, by simp, fun x hx y hy => by simp at hy; subst hy; exact fun e => m (e ▸ hx)⟩
theorem any_ksA (k : Int) (A : List (Int × Int)) : ((ksA A).any fun a => keyB a (.int k)) = decide (k ∈ keysA A) := by
  induction A with
  | nil => rfl
  | cons q r ih =>
    show (decide (q.1 = k) || (ksA r).any fun a => keyB a (.int k)) = decide (k ∈ q.1 :: keysA r)
    rw [ih, ← Bool.decide_or]
    congr 1
    rw [List.mem_cons]
    exact propext ⟨fun h => h.imp Eq.symm id, fun h => h.imp Eq.symm id⟩
theorem putKs_A (k v : Int) (A : List (Int × Int)) : putKs (.int k) (ksA A) = ksA (pA A k v) := by
  have e : ∀ B : List (Int × Int), ksA B = (keysA B).map .int := fun B => by unfold ksA keysA; rw [List.map_map]; rfl
  unfold putKs
  rw [any_ksA, e (pA A k v), keys_pA]
  by_cases m : k ∈ keysA A
  · rw [if_pos (decide_eq_true m), if_pos m, e]
  · rw [if_neg (by simpa using m), if_neg m, e, List.map_append]; rfl
theorem zip_none {k : Int} {v : D} : ∀ {A : List (Int × Int)}, k ∉ keysA A → List.zipWith (fun a d => if keyB a (.int k) = true then v else d) (ksA A) (vsA A) = vsA A
  | [], _ => rfl
  | q :: r, h => by
    show (if decide (q.1 = k) = true then v else D.int q.2) :: List.zipWith _ (ksA r) (vsA r) = D.int q.2 :: vsA r
    rw [if_neg (by simp; exact fun z => h (by show k ∈ q.1 :: keysA r; rw [z]; exact List.mem_cons_self)), zip_none fun m => h (List.mem_cons_of_mem _ m)]
theorem zip_A (k v : Int) : ∀ A : List (Int × Int), (keysA A).Nodup → k ∈ keysA A → List.zipWith (fun a d => if keyB a (.int k) = true then D.int v else d) (ksA A) (vsA A) = vsA (pA A k v)
  | [], _, h => by cases h
  | q :: r, n, h => by
    have n' : q.1 ∉ keysA r ∧ (keysA r).Nodup := List.nodup_cons.mp n
    show (if decide (q.1 = k) = true then D.int v else D.int q.2) :: List.zipWith _ (ksA r) (vsA r) = vsA (if q.1 = k then (q.1, v) :: r else q :: pA r k v)
    by_cases e : q.1 = k
    · rw [if_pos (decide_eq_true e), if_pos e, zip_none (by rw [← e]; exact n'.1)]; rfl
    · rw [if_neg (by simpa using e), if_neg e, zip_A k v r n'.2 ((List.mem_cons.mp h).elim (fun z => absurd z.symm e) id)]; rfl
theorem putVs_A {k v : Int} {A : List (Int × Int)} (n : (keysA A).Nodup) : putVs (.int k) (.int v) (ksA A) (vsA A) = vsA (pA A k v) := by
  unfold putVs
  rw [any_ksA]
  by_cases m : k ∈ keysA A
  · rw [if_pos (decide_eq_true m), zip_A k v A n m]
  · rw [if_neg (by simpa using m)]
    have : ∀ B : List (Int × Int), k ∉ keysA B → vsA (pA B k v) = vsA B ++ [.int v] := by
      intro B
      induction B with
      | nil => intro _; rfl
      | cons q r ih =>
        intro h
        show vsA (if q.1 = k then (q.1, v) :: r else q :: pA r k v) = _
        rw [if_neg (fun z => h (by show k ∈ q.1 :: keysA r; rw [z]; exact List.mem_cons_self))]
        show D.int q.2 :: vsA (pA r k v) = _
        rw [ih fun m => h (List.mem_cons_of_mem _ m)]; rfl
    exact (this A m).symm
section
variable {S : Store} {n : Nat} {A : List (Int × Int)}
theorem dctOf_A (h : S[n]? = some (dA A) ∨ S[n]? = some (fzA A)) : dctOf (.cell n) S = some (ksA A, vsA A) := by
  rcases h with h | h
  · show (match S[n]? with | some (.dct ks ds) => if isK ks = true then some (ks, ds) else none | some (.fzd ks ds) => if isK ks = true then some (ks, ds) else none | _ => none) = _
    rw [h]
    show (if isK (ksA A) = true then _ else _) = _
    rw [if_pos (isK_A A)]
  · show (match S[n]? with | some (.dct ks ds) => if isK ks = true then some (ks, ds) else none | some (.fzd ks ds) => if isK ks = true then some (ks, ds) else none | _ => none) = _
    rw [h]
    show (if isK (ksA A) = true then _ else _) = _
    rw [if_pos (isK_A A)]
theorem getC2_A {k : Int} (h : S[n]? = some (dA A) ∨ S[n]? = some (fzA A)) : getC2 (.cell n) (.d (.int k)) (.d (.int 0)) S = .ok (.d (.int (gA A k))) S := by
  unfold getC2
  rw [dctOf_A h]
  show (match lookD (.int k) (ksA A) (vsA A) with | some v => Out.ok (Val.d v) S | none => .ok (.d (.int 0)) S) = _
  rw [lookD_A]
  by_cases m : k ∈ keysA A
  · rw [if_pos m]
  · rw [if_neg m, gA_none m]
theorem getC_A {k : Int} (h : S[n]? = some (dA A) ∨ S[n]? = some (fzA A)) (m : k ∈ keysA A) : getC (.cell n) (.d (.int k)) S = .ok (.d (.int (gA A k))) S := by
  unfold getC
  rw [dctOf_A h]
  show (match lookD (.int k) (ksA A) (vsA A) with | some v => Out.ok (Val.d v) S | none => .bad) = _
  rw [lookD_A, if_pos m]
theorem putC_A {k v : Int} {ρ : Env'} (h : S[n]? = some (dA A)) (nd : (keysA A).Nodup) (z : A.length < 1000000) : putC (.cell n) (.d (.int k)) (.d (.int v)) ρ S = .next ρ (S.set n (dA (pA A k v))) := by
  show (match S[n]? with | some (.dct ks ds) => if isK ks = true ∧ isKey (.int k) = true ∧ ks.length < 1000000 then SOut.next ρ (S.set n (.dct (putKs (.int k) ks) (putVs (.int k) (.int v) ks ds))) else .bad | _ => .bad) = _
  rw [h]
  show (if isK (ksA A) = true ∧ isKey (.int k) = true ∧ (ksA A).length < 1000000 then _ else _) = _
  rw [if_pos ⟨isK_A A, rfl, by unfold ksA; rw [List.length_map]; exact z⟩, putKs_A k v, putVs_A nd]; rfl
/-- a loop over a dict's keys -/
theorem forD_run {i : Nat} {b : TB} {fb : SD} {ρ : Env'} (hρ : ρ[i]? = some (some (.cell n))) (hS : S[n]? = some (dA A)) (I : Nat → Env' → Store → Prop)
    (hs : ∀ j q ρ S, A[j]? = some q → I j ρ S → ∃ ρ1 ρ2 S2, b (.int q.1) ρ = some ρ1 ∧ (fb ρ1 S = .next ρ2 S2 ∨ fb ρ1 S = .cont ρ2 S2) ∧ I (j + 1) ρ2 S2) (h0 : I 0 ρ (S.set n (fzA A)))
    (hend : ∀ ρ S', I A.length ρ S' → S'[n]? = some (fzA A)) : ∃ ρ2 S2, sForD i b fb ρ S = .next ρ2 (S2.set n (dA A)) ∧ I A.length ρ2 S2 := by
  obtain ⟨ρ2, S2, e, k⟩ := for_all (w := ⟨ksA A, []⟩) (b := b) (body := fb) (ρ := ρ) (S := S.set n (fzA A)) I (fun _ _ _ _ => live_nil) (by
    intro j x ρ' S' hx hI
    have hx : (A.map fun q => D.int q.1)[j]? = some x := hx
    rw [List.getElem?_map] at hx
    obtain ⟨q, e1, e2⟩ := Option.map_eq_some_iff.mp hx
    subst e2
    exact hs j q ρ' S' e1 hI) h0
  have hl : (ksA A).length = A.length := by unfold ksA; rw [List.length_map]
  have k : I (ksA A).length ρ2 S2 := k
  rw [hl] at k
  refine ⟨ρ2, S2, ?_, k⟩
  unfold sForD
  rw [hρ]
  show (match S[n]? with | some (.dct ks ds) => if isK ks = true then thaw n ks ds (forN ⟨ks, []⟩ b fb ks ρ (S.set n (.fzd ks ds))) else .bad | _ => .bad) = _
  rw [hS]
  show (if isK (ksA A) = true then thaw n (ksA A) (vsA A) (forN ⟨ksA A, []⟩ b fb (ksA A) ρ (S.set n (fzA A))) else .bad) = _
  rw [if_pos (isK_A A)]
  have e : forN ⟨ksA A, []⟩ b fb (ksA A) ρ (S.set n (fzA A)) = .next ρ2 S2 := e
  rw [e]
  unfold thaw
  show (match S2[n]? with | some (.fzd _ _) => SOut.next ρ2 (S2.set n (dA A)) | _ => .bad) = _
  rw [hend ρ2 S2 k]; rfl
end
theorem nd_len {α : Type} [BEq α] [LawfulBEq α] {l m : List α} (h : l.Nodup) (s : ∀ x ∈ l, x ∈ m) : l.length ≤ m.length := by
  by_cases c : l.length ≤ m.length
  · exact c
  · have := (pigeon h s (by omega)).length_eq
    omega
/-! starred things in displays, x[::2] -/
section
variable {ρ : Env'} {S : Store} {f : Env' → M Val} {r : Env' → M (List Val)} {xs : List D}
@[simp] theorem dStar_app : dStar f r ρ S = (f ρ S).bind fun a => M.bind (starV a) fun xs => M.bind (r ρ) fun b => M.pure (xs ++ b) := (rfl)
@[simp] theorem starV_tup : starV (.d (.tup xs)) S = .ok (xs.map .d) S := (rfl)
@[simp] theorem starV_lst : starV (.d (.lst xs)) S = .ok (xs.map .d) S := (rfl)
@[simp] theorem toDs_app {q : List Val} : ∀ {xs : List D}, toDs (xs.map .d ++ q) = (toDs q).map (xs ++ ·)
  | [] => by simp
  | x :: xs => by
    rw [List.map_cons, List.cons_append, toDs_cons, toDs_app (xs := xs), Option.map_map]
    rfl
@[simp] theorem evD_tup : evD (.tup xs) = some (.tup (evens xs)) := (rfl)
end
end Dn

namespace Lk10
open PySem PySem.Spec PyProof.Rows L2 Dn
def top (i : Nat) : Stmt := PySem.Challenge.pw_leadsums_k10_whole_moved_rows.main.body.getD i (.Pass ⟨0, 0, 0, 0⟩)
abbrev s_is_whole : Stmt := top 4
abbrev s_is_between : Stmt := top 5
abbrev s_is_number : Stmt := top 9
abbrev s_wrong_in_row : Stmt := top 10
abbrev s_sums_by : Stmt := top 11
abbrev s_above_by : Stmt := top 12
abbrev s_highest_by : Stmt := top 13
abbrev s_places_with : Stmt := top 14
abbrev s_first_highest_by : Stmt := top 15
abbrev s_moved_by : Stmt := top 16
abbrev s_moved_back_by : Stmt := top 17
abbrev s_check_row : Stmt := top 19
abbrev s_above : Stmt := top 21
abbrev s_highest : Stmt := top 22
abbrev s_first_highest : Stmt := top 23
abbrev s_moved : Stmt := top 24
abbrev s_moved_back : Stmt := top 25
abbrev s__law_pool : Stmt := top 27
abbrev s__law_below : Stmt := top 28
abbrev s__law_one : Stmt := top 29
abbrev s__law_row : Stmt := top 30
abbrev s__law_sums : Stmt := top 31
abbrev s__law_moved : Stmt := top 32
abbrev s__law_same : Stmt := top 33
abbrev s__law_right : Stmt := top 34
abbrev s_law : Stmt := top 35
/-! ### what they do -/
noncomputable def bd_is_whole : SD :=
    sRet (dAndV (dCallB isiD (dCons (dVar 0) (dCons (dC (.ty "int")) (dNil)))) (dNotV (dCallB isiD (dCons (dVar 0) (dCons (dC (.ty "bool")) (dNil))))))
noncomputable def den_is_whole : List Val → M Val := runF 1 bd_is_whole
noncomputable def bd_is_between : SD :=
    sRet (dAndV (dCall (den_is_whole) (dCons (dVar 0) (dNil))) (dChain leD leD (dVar 1) (dVar 0) (dVar 2)))
noncomputable def den_is_between : List Val → M Val := runF 3 bd_is_between
noncomputable def bd_is_number : SD :=
    sRet (dCall (den_is_between) (dCons (dVar 0) (dCons (dOp1 negD (dC (.int (9)))) (dCons (dC (.int (9))) (dNil)))))
noncomputable def den_is_number : List Val → M Val := runF 1 bd_is_number
noncomputable def bd_wrong_in_row : SD :=
    sSeq (sIf (dOrT (dNotT (dTest (dCallB isiD (dCons (dVar 0) (dCons (dC (.ty "tuple")) (dNil)))))) (dNotT (dTest (dChain leD leD (dC (.int 1)) (dCallB lenD (dCons (dVar 0) (dNil))) (dC (.int (8))))))) (sRet (dLst (dCons (dC .non) (dNil)))) (sNext))
    (sRet (dSl (dN (nLc (dEnum (dCons (dVar 0) (dNil))) (bTup 2 (bCons (bName 1) (bCons (bName 2) (bNil)))) (dNotT (dTest (dCall (den_is_number) (dCons (dVar 2) (dNil))))) (dVar 1) [1, 2])) dNoPart (dPart (dC (.int 1)))))
noncomputable def den_wrong_in_row : List Val → M Val := runF 3 bd_wrong_in_row
noncomputable def fb_sums_by_0 : SD :=
    sExpr (dApp (dVar 1) (dOp2 addD (dOp2 idxD (dVar 1) (dOp1 negD (dC (.int 1)))) (dVar 2)))
noncomputable def bd_sums_by : SD :=
    sSeq (sSetC 1 (nLst (dCons (dC (.int 0)) (dNil))))
    (sSeq (sFor (dIter (dVar 0)) (bName 2) (fb_sums_by_0))
    (sRet (dCallB tupleD (dCons (dVar 1) (dNil)))))
noncomputable def den_sums_by : List Val → M Val := runF 3 bd_sums_by
noncomputable def bd_above_by : SD :=
    sRet (dCallB lenD (dCons (dN (nLc (dIter (dCall (den_sums_by) (dCons (dVar 0) (dNil)))) (bName 1) (dTest (dOp2 gtD (dVar 1) (dC (.int 0)))) (dVar 1) [1])) (dNil)))
noncomputable def den_above_by : List Val → M Val := runF 2 bd_above_by
noncomputable def bd_highest_by : SD :=
    sRet (dCallB maxDD (dCons (dCall (den_sums_by) (dCons (dVar 0) (dNil))) (dNil)))
noncomputable def den_highest_by : List Val → M Val := runF 1 bd_highest_by
noncomputable def bd_places_with : SD :=
    sRet (dN (nLc (dEnum (dCons (dCall (den_sums_by) (dCons (dVar 0) (dNil))) (dNil))) (bTup 2 (bCons (bName 2) (bCons (bName 3) (bNil)))) (dTest (dOp2 eqD (dVar 3) (dVar 1))) (dVar 2) [2, 3]))
noncomputable def den_places_with : List Val → M Val := runF 4 bd_places_with
noncomputable def bd_first_highest_by : SD :=
    sRet (dOp2 idxD (dCall (den_places_with) (dCons (dVar 0) (dCons (dCall (den_highest_by) (dCons (dVar 0) (dNil))) (dNil)))) (dC (.int 0)))
noncomputable def den_first_highest_by : List Val → M Val := runF 1 bd_first_highest_by
noncomputable def bd_moved_by : SD :=
    sSeq (sSet 1 (dN (nLZ (dCons (dVar 0) (dCons (dSl (dCall (den_sums_by) (dCons (dVar 0) (dNil))) (dPart (dC (.int 1))) dNoPart) (dNil))))))
    (sSeq (sSet 2 (dN (nLc (dIter (dVar 1)) (bTup 2 (bCons (bName 3) (bCons (bName 4) (bNil)))) (dTest (dOp2 gtD (dVar 4) (dC (.int 0)))) (dVar 3) [3, 4])))
    (sRet (dCallB tupleD (dCons (dOp2 addD (dOp1 revD (dVar 2)) (dN (nLc (dIter (dVar 1)) (bTup 2 (bCons (bName 3) (bCons (bName 4) (bNil)))) (dTest (dOp2 leD (dVar 4) (dC (.int 0)))) (dVar 3) [3, 4]))) (dNil)))))
noncomputable def den_moved_by : List Val → M Val := runF 5 bd_moved_by
noncomputable def bd_moved_back_by : SD :=
    sSeq (sSet 1 (dCall (den_first_highest_by) (dCons (dVar 0) (dNil))))
    (sSeq (sPar3 2 3 4 (dCons (dNC (nRevL (dN (nCallB listN (dCons (dSl (dVar 0) dNoPart (dPart (dVar 1))) (dNil)))))) (dCons (dNC (nCallB listN (dCons (dSl (dVar 0) (dPart (dVar 1)) dNoPart) (dNil)))) (dCons (dNC (nLst (dNil))) (dNil)))))
    (sSeq (whileN (dOrT (dTest (dOp2 neD (dVar 2) (dLst (dNil)))) (dTest (dOp2 neD (dVar 3) (dLst (dNil))))) (sSeq (sSet 5 (dIf (dTest (dOp2 gtD (dOp2 addD (dCallB sumD (dCons (dVar 2) (dNil))) (dCallB sumD (dCons (dVar 3) (dNil)))) (dC (.int 0)))) (dVar 2) (dVar 3)))
    (sExpr (dApp (dVar 4) (dPop (dVar 5))))) 100000)
    (sRet (dCallB tupleD (dCons (dOp1 revD (dVar 4)) (dNil))))))
noncomputable def den_moved_back_by : List Val → M Val := runF 6 bd_moved_back_by
noncomputable def fb_check_row_0 : SD :=
    sBad
noncomputable def bd_check_row : SD :=
    sFor (dIter (dCall (den_wrong_in_row) (dCons (dVar 0) (dNil)))) (bName 1) (fb_check_row_0)
noncomputable def den_check_row : List Val → M Val := runF 2 bd_check_row
noncomputable def bd_above : SD :=
    sSeq (sExpr (dCall (den_check_row) (dCons (dVar 0) (dNil))))
    (sRet (dCall (den_above_by) (dCons (dVar 0) (dNil))))
noncomputable def den_above : List Val → M Val := runF 1 bd_above
noncomputable def bd_highest : SD :=
    sSeq (sExpr (dCall (den_check_row) (dCons (dVar 0) (dNil))))
    (sRet (dCall (den_highest_by) (dCons (dVar 0) (dNil))))
noncomputable def den_highest : List Val → M Val := runF 1 bd_highest
noncomputable def bd_first_highest : SD :=
    sSeq (sExpr (dCall (den_check_row) (dCons (dVar 0) (dNil))))
    (sRet (dCall (den_first_highest_by) (dCons (dVar 0) (dNil))))
noncomputable def den_first_highest : List Val → M Val := runF 1 bd_first_highest
noncomputable def bd_moved : SD :=
    sSeq (sExpr (dCall (den_check_row) (dCons (dVar 0) (dNil))))
    (sRet (dCall (den_moved_by) (dCons (dVar 0) (dNil))))
noncomputable def den_moved : List Val → M Val := runF 1 bd_moved
noncomputable def bd_moved_back : SD :=
    sSeq (sExpr (dCall (den_check_row) (dCons (dVar 0) (dNil))))
    (sRet (dCall (den_moved_back_by) (dCons (dVar 0) (dNil))))
noncomputable def den_moved_back : List Val → M Val := runF 1 bd_moved_back
noncomputable def fb__law_pool_0 : SD :=
    sSet 3 (dOp2 modD (dCallB intD (dCons (dOp2 addD (dOp2 addD (dOp2 mulD (dVar 3) (dC (.int 35073))) (dOp2 modD (dCallB intD (dCons (dVar 4) (dNil))) (dC (.int 2147483587)))) (dC (.int 27))) (dNil))) (dC (.int 2147483647)))
noncomputable def bd__law_pool : SD :=
    sSeq (sSet 2 (dIf (dTest (dOp2 ltD (dVar 1) (dCallB lenD (dCons (dVar 0) (dNil))))) (dCallB intD (dCons (dOp2 idxD (dVar 0) (dVar 1)) (dNil))) (dOp2 addD (dOp2 mulD (dC (.int 5873)) (dVar 1)) (dC (.int 561)))))
    (sSeq (sSet 3 (dOp2 addD (dC (.int 70769)) (dOp2 mulD (dC (.int 6991)) (dVar 1))))
    (sSeq (sFor (dIter (dSl (dVar 0) dNoPart (dPart (dC (.int 12))))) (bName 4) (fb__law_pool_0))
    (sSeq (sSet 3 (dOp2 modD (dCallB intD (dCons (dOp2 addD (dOp2 addD (dOp2 mulD (dVar 3) (dC (.int 57))) (dOp2 mulD (dOp2 modD (dCallB intD (dCons (dVar 2) (dNil))) (dC (.int 2147483587))) (dC (.int 18787)))) (dC (.int 11))) (dNil))) (dC (.int 2147483647))))
    (sRetC (nLst (dCons (dIf (dOrT (dTest (dOp2 ltD (dVar 2) (dC (.int 0)))) (dTest (dOp2 geD (dVar 2) (dOp2 powD (dC (.int 10)) (dC (.int 15)))))) (dOp2 modD (dCallB intD (dCons (dCallB absD (dCons (dVar 2) (dNil))) (dNil))) (dOp2 powD (dC (.int 10)) (dC (.int 60)))) (dC (.int 0))) (dCons (dVar 3) (dCons (dC (.int 0)) (dNil)))))))))
noncomputable def den__law_pool : List Val → M Val := runK 5 bd__law_pool
noncomputable def bd__law_below : SD :=
    sSeq (sIf (dTest (dOp2 gtD (dOp2 idxD (dVar 0) (dC (.int 0))) (dC (.int 0)))) (sSeq (sAsgX (xTup 2 (xCons (xSub (dVar 0) (dC (.int 0))) (xCons (xOf (bName 2)) (xNil)))) (dCallB divmodD (dCons (dOp2 idxD (dVar 0) (dC (.int 0))) (dCons (dVar 1) (dNil)))))
    (sRet (dVar 2))) (sNext))
    (sSeq (sAsgX (xSub (dVar 0) (dC (.int 2))) (dOp2 addD (dOp2 idxD (dVar 0) (dC (.int 2))) (dC (.int 1))))
    (sSeq (sSet 3 (dOp2 modD (dCallB intD (dCons (dOp2 addD (dOp2 addD (dOp2 mulD (dOp2 idxD (dVar 0) (dC (.int 1))) (dC (.int 44253))) (dOp2 mulD (dC (.int 4469)) (dOp2 idxD (dVar 0) (dC (.int 2))))) (dC (.int 71))) (dNil))) (dC (.int 2147483563))))
    (sSeq (sAsgX (xSub (dVar 0) (dC (.int 1))) (dOp2 modD (dCallB intD (dCons (dOp2 addD (dOp2 mulD (dVar 3) (dOp2 addD (dOp2 modD (dCallB intD (dCons (dVar 3) (dNil))) (dC (.int 3989))) (dC (.int 15195)))) (dOp2 idxD (dVar 0) (dC (.int 2)))) (dNil))) (dC (.int 2147483563))))
    (sRet (dOp2 modD (dCallB intD (dCons (dOp2 fdivD (dOp2 idxD (dVar 0) (dC (.int 1))) (dC (.int 359))) (dNil))) (dVar 1))))))
noncomputable def den__law_below : List Val → M Val := runF 4 bd__law_below
noncomputable def bd__law_one : SD :=
    sRet (dOp2 idxD (dVar 1) (dCall (den__law_below) (dCons (dVar 0) (dCons (dCallB lenD (dCons (dVar 1) (dNil))) (dNil)))))
noncomputable def den__law_one : List Val → M Val := runF 2 bd__law_one
noncomputable def bd__law_row : SD :=
    sSeq (sSet 2 (dCall (den__law_one) (dCons (dVar 0) (dCons (dTup (dCons (dC (.int 1)) (dCons (dC (.int 2)) (dCons (dC (.int 9)) (dNil))))) (dNil)))))
    (sRet (dCallB tupleD (dCons (dN (nLc (dRng (dCons (dOp2 addD (dC (.int 1)) (dCall (den__law_below) (dCons (dVar 0) (dCons (dVar 1) (dNil))))) (dNil))) (bName 3) (cYes) (dOp2 subD (dCall (den__law_below) (dCons (dVar 0) (dCons (dOp2 addD (dOp2 mulD (dC (.int 2)) (dVar 2)) (dC (.int 1))) (dNil)))) (dVar 2)) [3])) (dNil))))
noncomputable def den__law_row : List Val → M Val := runF 4 bd__law_row
noncomputable def fb__law_sums_0 : SD :=
    sExpr (dApp (dVar 1) (dOp2 addD (dOp2 idxD (dVar 1) (dOp1 negD (dC (.int 1)))) (dVar 2)))
noncomputable def bd__law_sums : SD :=
    sSeq (sSetC 1 (nLst (dCons (dC (.int 0)) (dNil))))
    (sSeq (sFor (dIter (dVar 0)) (bName 2) (fb__law_sums_0))
    (sRet (dVar 1)))
noncomputable def den__law_sums : List Val → M Val := runF 3 bd__law_sums
noncomputable def bd__law_moved : SD :=
    sSeq (sSet 1 (dCall (den__law_sums) (dCons (dVar 0) (dNil))))
    (sSeq (sSet 2 (dN (nLc (dZipM (dCons (dVar 0) (dCons (dSl (dVar 1) (dPart (dC (.int 1))) dNoPart) (dNil)))) (bTup 2 (bCons (bName 3) (bCons (bName 4) (bNil)))) (dTest (dOp2 gtD (dVar 4) (dC (.int 0)))) (dVar 3) [3, 4])))
    (sRet (dCallB tupleD (dCons (dOp2 addD (dOp1 revD (dVar 2)) (dN (nLc (dZipM (dCons (dVar 0) (dCons (dSl (dVar 1) (dPart (dC (.int 1))) dNoPart) (dNil)))) (bTup 2 (bCons (bName 3) (bCons (bName 4) (bNil)))) (dTest (dOp2 leD (dVar 4) (dC (.int 0)))) (dVar 3) [3, 4]))) (dNil)))))
noncomputable def den__law_moved : List Val → M Val := runF 5 bd__law_moved
noncomputable def bd__law_same (den__law_samen : List Val → M Val) : SD :=
    sSeq (sIf (dTest (dOp2 isNonD (dVar 1) (dC .non))) (sRet (dOp2 isNonD (dVar 0) (dC .non))) (sNext))
    (sSeq (sIf (dTest (dCallB isiD (dCons (dVar 1) (dCons (dC (.ty "bool")) (dNil))))) (sRet (dAndV (dCallB isiD (dCons (dVar 0) (dCons (dC (.ty "bool")) (dNil)))) (dOp2 eqD (dVar 0) (dVar 1)))) (sNext))
    (sSeq (sIf (dTest (dCallB isiD (dCons (dVar 1) (dCons (dC (.ty "int")) (dNil))))) (sRet (dAndV (dCallB isiD (dCons (dVar 0) (dCons (dC (.ty "int")) (dNil)))) (dAndV (dNotV (dCallB isiD (dCons (dVar 0) (dCons (dC (.ty "bool")) (dNil))))) (dOp2 eqD (dVar 0) (dVar 1))))) (sNext))
    (sSeq (sIf (dTest (dCallB isiD (dCons (dVar 1) (dCons (dC (.ty "str")) (dNil))))) (sRet (dAndV (dCallB isiD (dCons (dVar 0) (dCons (dC (.ty "str")) (dNil)))) (dOp2 eqD (dVar 0) (dVar 1)))) (sNext))
    (sSeq (sIf (dTest (dCallB isiD (dCons (dVar 1) (dCons (dC (.ty "dict")) (dNil))))) (sSeq (sIf (dOrT (dNotT (dTest (dCallB isiD (dCons (dVar 0) (dCons (dC (.ty "dict")) (dNil)))))) (dTest (dOp2 neD (dCallB lenD (dCons (dVar 0) (dNil))) (dCallB lenD (dCons (dVar 1) (dNil)))))) (sRet (dC (.bl false))) (sNext))
    (sRet (dCallB allD (dCons (dN (nLc (dIter (dVar 1)) (bName 2) (cYes) (dAndV (dOp2 inD (dVar 2) (dVar 0)) (dCall (den__law_samen) (dCons (dOp2 idxD (dVar 0) (dVar 2)) (dCons (dOp2 idxD (dVar 1) (dVar 2)) (dNil))))) [2])) (dNil))))) (sNext))
    (sSeq (sIf (dOrT (dTest (dOp2 neD (dCallB isiD (dCons (dVar 1) (dCons (dC (.ty "tuple")) (dNil)))) (dCallB isiD (dCons (dVar 0) (dCons (dC (.ty "tuple")) (dNil)))))) (dTest (dOp2 neD (dCallB isiD (dCons (dVar 1) (dCons (dC (.ty "list")) (dNil)))) (dCallB isiD (dCons (dVar 0) (dCons (dC (.ty "list")) (dNil))))))) (sRet (dC (.bl false))) (sNext))
    (sRet (dAndV (dOp2 eqD (dCallB lenD (dCons (dVar 0) (dNil))) (dCallB lenD (dCons (dVar 1) (dNil)))) (dCallB allD (dCons (dN (nLc (dZip (dCons (dVar 0) (dCons (dVar 1) (dNil)))) (bTup 2 (bCons (bName 3) (bCons (bName 4) (bNil)))) (cYes) (dCall (den__law_samen) (dCons (dVar 3) (dCons (dVar 4) (dNil)))) [3, 4])) (dNil))))))))))
noncomputable def den__law_same : Nat → List Val → M Val
  | 0 => denBad
  | n + 1 => runF 5 (bd__law_same (den__law_same n))
noncomputable def fb__law_right_0_5 : SD :=
    sIf (dTest (dOp2 neD (dCall (den_above) (dCons (dCall (den_moved_back) (dCons (dVar 2) (dNil))) (dNil))) (dCall (den_first_highest) (dCons (dVar 2) (dNil))))) (sRet (dC (.bl false))) (sNext)
noncomputable def fb__law_right_0_4 : SD :=
    sSeq (sIf (dOrT (dNotT (dTest (dCall ((den__law_same 8)) (dCons (dIf (dTest (dOp2 eqD (dVar 1) (dC (.int 1)))) (dCall (fun ws => den_moved_back (pick [0] ws)) (dCons (dVar 3) (dNil))) (dCall (den_moved_back) (dCons (dVar 3) (dNil)))) (dCons (dVar 2) (dNil)))))) (dTest (dOp2 neD (dCall (den_moved) (dCons (dCall (den_moved_back) (dCons (dVar 2) (dNil))) (dNil))) (dVar 2)))) (sRet (dC (.bl false))) (sNext))
    (fb__law_right_0_5)
noncomputable def fb__law_right_0_3 : SD :=
    sSeq (sIf (dOrT (dNotT (dTest (dCall ((den__law_same 8)) (dCons (dVar 3) (dCons (dCall (den__law_moved) (dCons (dVar 2) (dNil))) (dNil)))))) (dOrT (dTest (dOp2 neD (dCall (den_first_highest) (dCons (dVar 3) (dNil))) (dCall (den_above) (dCons (dVar 2) (dNil))))) (dTest (dOp2 neD (dCall (den_highest) (dCons (dVar 3) (dNil))) (dCallB sumD (dCons (dVar 4) (dNil))))))) (sRet (dC (.bl false))) (sNext))
    (fb__law_right_0_4)
noncomputable def fb__law_right_0_2 : SD :=
    sSeq (sSet 4 (dN (nLc (dZipM (dCons (dVar 2) (dCons (dSl (dCall (den__law_sums) (dCons (dVar 2) (dNil))) (dPart (dC (.int 1))) dNoPart) (dNil)))) (bTup 2 (bCons (bName 5) (bCons (bName 6) (bNil)))) (dTest (dOp2 gtD (dVar 6) (dC (.int 0)))) (dVar 5) [5, 6])))
    (fb__law_right_0_3)
noncomputable def fb__law_right_0_1 : SD :=
    sSeq (sSet 3 (dIf (dTest (dOp2 eqD (dVar 1) (dC (.int 1)))) (dCall (fun ws => den_moved (pick [0] ws)) (dCons (dVar 2) (dNil))) (dCall (den_moved) (dCons (dVar 2) (dNil)))))
    (fb__law_right_0_2)
noncomputable def fb__law_right_0 : SD :=
    sSeq (sSet 2 (dCall (den__law_row) (dCons (dVar 0) (dCons (dC (.int 8)) (dNil)))))
    (fb__law_right_0_1)
noncomputable def bd__law_right_1 : SD :=
    sRet (dCall ((den__law_same 8)) (dCons (dTup (dCons (dCall (den_moved) (dCons (dTup (dCons (dC (.int 2)) (dCons (dOp1 negD (dC (.int 1))) (dNil)))) (dNil))) (dCons (dCall (den_moved) (dCons (dTup (dCons (dOp1 negD (dC (.int 1))) (dCons (dC (.int 2)) (dNil)))) (dNil))) (dCons (dCall (den_moved) (dCons (dTup (dCons (dC (.int 1)) (dCons (dOp1 negD (dC (.int 1))) (dNil)))) (dNil))) (dCons (dCall (den_moved) (dCons (dTup (dCons (dOp1 negD (dC (.int 1))) (dCons (dC (.int 1)) (dNil)))) (dNil))) (dNil)))))) (dCons (dTup (dCons (dTup (dCons (dOp1 negD (dC (.int 1))) (dCons (dC (.int 2)) (dNil)))) (dCons (dTup (dCons (dC (.int 2)) (dCons (dOp1 negD (dC (.int 1))) (dNil)))) (dCons (dTup (dCons (dC (.int 1)) (dCons (dOp1 negD (dC (.int 1))) (dNil)))) (dCons (dTup (dCons (dOp1 negD (dC (.int 1))) (dCons (dC (.int 1)) (dNil)))) (dNil)))))) (dNil))))
noncomputable def bd__law_right : SD :=
    sSeq (sFor (dRng (dCons (dC (.int 30)) (dNil))) (bName 1) (fb__law_right_0))
    (bd__law_right_1)
noncomputable def den__law_right : List Val → M Val := runF 7 bd__law_right
noncomputable def bd_law : SD :=
    sRet (dCallB allD (dCons (dN (nLc (dRng (dCons (dCallB maxDD (dCons (dC (.int 1)) (dCons (dCallB minDD (dCons (dCallB lenD (dCons (dVar 0) (dNil))) (dCons (dC (.int 2)) (dNil)))) (dNil)))) (dNil))) (bName 1) (cYes) (dCall (den__law_right) (dCons (dCall (den__law_pool) (dCons (dVar 0) (dCons (dVar 1) (dNil)))) (dNil))) [1])) (dNil)))
noncomputable def den_law : List Val → M Val := runF 2 bd_law

/-! ### the facts -/
structure Fc (K : PySem.W.Frag) (mg : Str → Option Value) where
  f_is_whole : Addr
  d_is_whole : FuncData
  F_is_whole : FunD K "is_whole" "is_whole" (defArgs s_is_whole) (defBody s_is_whole) (defScope s_is_whole) [] [] f_is_whole d_is_whole
  g_is_whole : mg "is_whole" = some (.ref f_is_whole)
  f_is_between : Addr
  d_is_between : FuncData
  F_is_between : FunD K "is_between" "is_between" (defArgs s_is_between) (defBody s_is_between) (defScope s_is_between) [] [] f_is_between d_is_between
  g_is_between : mg "is_between" = some (.ref f_is_between)
  f_is_number : Addr
  d_is_number : FuncData
  F_is_number : FunD K "is_number" "is_number" (defArgs s_is_number) (defBody s_is_number) (defScope s_is_number) [] [] f_is_number d_is_number
  g_is_number : mg "is_number" = some (.ref f_is_number)
  f_wrong_in_row : Addr
  d_wrong_in_row : FuncData
  F_wrong_in_row : FunD K "wrong_in_row" "wrong_in_row" (defArgs s_wrong_in_row) (defBody s_wrong_in_row) (defScope s_wrong_in_row) [] [] f_wrong_in_row d_wrong_in_row
  g_wrong_in_row : mg "wrong_in_row" = some (.ref f_wrong_in_row)
  f_sums_by : Addr
  d_sums_by : FuncData
  F_sums_by : FunD K "sums_by" "sums_by" (defArgs s_sums_by) (defBody s_sums_by) (defScope s_sums_by) [] [] f_sums_by d_sums_by
  g_sums_by : mg "sums_by" = some (.ref f_sums_by)
  f_above_by : Addr
  d_above_by : FuncData
  F_above_by : FunD K "above_by" "above_by" (defArgs s_above_by) (defBody s_above_by) (defScope s_above_by) [] [] f_above_by d_above_by
  g_above_by : mg "above_by" = some (.ref f_above_by)
  f_highest_by : Addr
  d_highest_by : FuncData
  F_highest_by : FunD K "highest_by" "highest_by" (defArgs s_highest_by) (defBody s_highest_by) (defScope s_highest_by) [] [] f_highest_by d_highest_by
  g_highest_by : mg "highest_by" = some (.ref f_highest_by)
  f_places_with : Addr
  d_places_with : FuncData
  F_places_with : FunD K "places_with" "places_with" (defArgs s_places_with) (defBody s_places_with) (defScope s_places_with) [] [] f_places_with d_places_with
  g_places_with : mg "places_with" = some (.ref f_places_with)
  f_first_highest_by : Addr
  d_first_highest_by : FuncData
  F_first_highest_by : FunD K "first_highest_by" "first_highest_by" (defArgs s_first_highest_by) (defBody s_first_highest_by) (defScope s_first_highest_by) [] [] f_first_highest_by d_first_highest_by
  g_first_highest_by : mg "first_highest_by" = some (.ref f_first_highest_by)
  f_moved_by : Addr
  d_moved_by : FuncData
  F_moved_by : FunD K "moved_by" "moved_by" (defArgs s_moved_by) (defBody s_moved_by) (defScope s_moved_by) [] [] f_moved_by d_moved_by
  g_moved_by : mg "moved_by" = some (.ref f_moved_by)
  f_moved_back_by : Addr
  d_moved_back_by : FuncData
  F_moved_back_by : FunD K "moved_back_by" "moved_back_by" (defArgs s_moved_back_by) (defBody s_moved_back_by) (defScope s_moved_back_by) [] [] f_moved_back_by d_moved_back_by
  g_moved_back_by : mg "moved_back_by" = some (.ref f_moved_back_by)
  f_check_row : Addr
  d_check_row : FuncData
  F_check_row : FunD K "check_row" "check_row" (defArgs s_check_row) (defBody s_check_row) (defScope s_check_row) [] [] f_check_row d_check_row
  g_check_row : mg "check_row" = some (.ref f_check_row)
  f_above : Addr
  d_above : FuncData
  F_above : FunD K "above" "above" (defArgs s_above) (defBody s_above) (defScope s_above) [] [] f_above d_above
  g_above : mg "above" = some (.ref f_above)
  f_highest : Addr
  d_highest : FuncData
  F_highest : FunD K "highest" "highest" (defArgs s_highest) (defBody s_highest) (defScope s_highest) [] [] f_highest d_highest
  g_highest : mg "highest" = some (.ref f_highest)
  f_first_highest : Addr
  d_first_highest : FuncData
  F_first_highest : FunD K "first_highest" "first_highest" (defArgs s_first_highest) (defBody s_first_highest) (defScope s_first_highest) [] [] f_first_highest d_first_highest
  g_first_highest : mg "first_highest" = some (.ref f_first_highest)
  f_moved : Addr
  d_moved : FuncData
  F_moved : FunD K "moved" "moved" (defArgs s_moved) (defBody s_moved) (defScope s_moved) [] [] f_moved d_moved
  g_moved : mg "moved" = some (.ref f_moved)
  f_moved_back : Addr
  d_moved_back : FuncData
  F_moved_back : FunD K "moved_back" "moved_back" (defArgs s_moved_back) (defBody s_moved_back) (defScope s_moved_back) [] [] f_moved_back d_moved_back
  g_moved_back : mg "moved_back" = some (.ref f_moved_back)
  f__law_pool : Addr
  d__law_pool : FuncData
  F__law_pool : FunD K "_law_pool" "_law_pool" (defArgs s__law_pool) (defBody s__law_pool) (defScope s__law_pool) [] [] f__law_pool d__law_pool
  g__law_pool : mg "_law_pool" = some (.ref f__law_pool)
  f__law_below : Addr
  d__law_below : FuncData
  F__law_below : FunD K "_law_below" "_law_below" (defArgs s__law_below) (defBody s__law_below) (defScope s__law_below) [] [] f__law_below d__law_below
  g__law_below : mg "_law_below" = some (.ref f__law_below)
  f__law_one : Addr
  d__law_one : FuncData
  F__law_one : FunD K "_law_one" "_law_one" (defArgs s__law_one) (defBody s__law_one) (defScope s__law_one) [] [] f__law_one d__law_one
  g__law_one : mg "_law_one" = some (.ref f__law_one)
  f__law_row : Addr
  d__law_row : FuncData
  F__law_row : FunD K "_law_row" "_law_row" (defArgs s__law_row) (defBody s__law_row) (defScope s__law_row) [] [] f__law_row d__law_row
  g__law_row : mg "_law_row" = some (.ref f__law_row)
  f__law_sums : Addr
  d__law_sums : FuncData
  F__law_sums : FunD K "_law_sums" "_law_sums" (defArgs s__law_sums) (defBody s__law_sums) (defScope s__law_sums) [] [] f__law_sums d__law_sums
  g__law_sums : mg "_law_sums" = some (.ref f__law_sums)
  f__law_moved : Addr
  d__law_moved : FuncData
  F__law_moved : FunD K "_law_moved" "_law_moved" (defArgs s__law_moved) (defBody s__law_moved) (defScope s__law_moved) [] [] f__law_moved d__law_moved
  g__law_moved : mg "_law_moved" = some (.ref f__law_moved)
  f__law_same : Addr
  d__law_same : FuncData
  F__law_same : FunD K "_law_same" "_law_same" (defArgs s__law_same) (defBody s__law_same) (defScope s__law_same) [] [] f__law_same d__law_same
  g__law_same : mg "_law_same" = some (.ref f__law_same)
  f__law_right : Addr
  d__law_right : FuncData
  F__law_right : FunD K "_law_right" "_law_right" (defArgs s__law_right) (defBody s__law_right) (defScope s__law_right) [] [] f__law_right d__law_right
  g__law_right : mg "_law_right" = some (.ref f__law_right)
  f_law : Addr
  d_law : FuncData
  F_law : FunD K "law" "law" (defArgs s_law) (defBody s_law) (defScope s_law) [] [] f_law d_law
  g_law : mg "law" = some (.ref f_law)
  m_abs : mg "abs" = none
  m_all : mg "all" = none
  m_bool : mg "bool" = none
  m_dict : mg "dict" = none
  m_divmod : mg "divmod" = none
  m_enumerate : mg "enumerate" = none
  m_int : mg "int" = none
  m_isinstance : mg "isinstance" = none
  m_len : mg "len" = none
  m_list : mg "list" = none
  m_max : mg "max" = none
  m_min : mg "min" = none
  m_range : mg "range" = none
  m_str : mg "str" = none
  m_sum : mg "sum" = none
  m_tuple : mg "tuple" = none
  m_zip : mg "zip" = none
  c_MOST_NUMBERS : ∃ t, mg "MOST_NUMBERS" = some (.int (8) t)
  c_MOST_SIZE : ∃ t, mg "MOST_SIZE" = some (.int (9) t)

section
variable {P : Program} {w : World} {K : PySem.W.Frag} {mg : Str → Option Value} {base : Heap}
theorem kb_moved_0_row (T : Fc K mg) : ∀ ws : List Value, ws.length = (["row"] : List Str).length → bindArgs T.d_moved ⟨[], (["row"] : List Str).zip ws⟩ = pure ((["row"] : List Str).zip (pick [0] ws)) := kbD0 (g := pick [0]) T.F_moved fun _ _ _ _ _ _ ws h2 => match ws, h2 with | [_], _ => rfl
theorem kb_moved_0_row_l : ∀ vs : List V, vs.length = (["row"] : List Str).length → (pick [0] vs).length = 1 := fun vs h => match vs, h with | [_], _ => rfl
theorem kb_moved_back_0_row (T : Fc K mg) : ∀ ws : List Value, ws.length = (["row"] : List Str).length → bindArgs T.d_moved_back ⟨[], (["row"] : List Str).zip ws⟩ = pure ((["row"] : List Str).zip (pick [0] ws)) := kbD0 (g := pick [0]) T.F_moved_back fun _ _ _ _ _ _ ws h2 => match ws, h2 with | [_], _ => rfl
theorem kb_moved_back_0_row_l : ∀ vs : List V, vs.length = (["row"] : List Str).length → (pick [0] vs).length = 1 := fun vs h => match vs, h with | [_], _ => rfl
theorem sc_is_whole : FnScope ["value"] ["value"] (defScope s_is_whole) := ⟨rfl, rfl, rfl, by decide +kernel, rfl, by decide +kernel, by decide +kernel⟩
theorem b_is_whole (T : Fc K mg) : Binds K T.d_is_whole ["value"] [] := T.F_is_whole.bindsN fun _ _ _ _ _ _ us hl => match us, hl with | [_], _ => rfl
theorem ok_is_whole (T : Fc K mg) : FnOk P w K mg base (L2.CX P w) 1 T.f_is_whole T.d_is_whole ["value"] (spD ⟨K, mg⟩ 1 den_is_whole) :=
  okFD (k := 0) T.F_is_whole sc_is_whole fun cdv A outer s H E hr =>
    (dss_one (ds_ret (de_and (de_callB c_isi (by rfl) T.m_isinstance (by decide +kernel) (da_cons (dv 0) (da_cons (de_bty (by rfl) T.m_int (by decide +kernel)) da_nil))) (de_one (de_not (de_callB c_isi (by rfl) T.m_isinstance (by decide +kernel) (da_cons (dv 0) (da_cons (de_bty (by rfl) T.m_bool (by decide +kernel)) da_nil))))))))
theorem sc_is_between : FnScope ["value", "low", "high"] ["value", "low", "high"] (defScope s_is_between) := ⟨rfl, rfl, rfl, by decide +kernel, rfl, by decide +kernel, by decide +kernel⟩
theorem b_is_between (T : Fc K mg) : Binds K T.d_is_between ["value", "low", "high"] [] := T.F_is_between.bindsN fun _ _ _ _ _ _ us hl => match us, hl with | [_, _, _], _ => rfl
theorem ok_is_between (T : Fc K mg) : FnOk P w K mg base (L2.CX P w) 2 T.f_is_between T.d_is_between ["value", "low", "high"] (spD ⟨K, mg⟩ 3 den_is_between) :=
  okFD (k := 1) T.F_is_between sc_is_between fun cdv A outer s H E hr =>
    (dss_one (ds_ret (de_and (de_call (ok_is_whole T) (hr.mono (by decide)) (by rfl) T.g_is_whole T.F_is_whole.kp (b_is_whole T) (takes_of rfl rfl rfl rfl) (da_cons (dv 0) da_nil) (len_cons len_nil)) (de_one (de_chain oD_le oD_le (dv 1) (dv 0) (dv 2))))))
theorem sc_is_number : FnScope ["value"] ["value"] (defScope s_is_number) := ⟨rfl, rfl, rfl, by decide +kernel, rfl, by decide +kernel, by decide +kernel⟩
theorem b_is_number (T : Fc K mg) : Binds K T.d_is_number ["value"] [] := T.F_is_number.bindsN fun _ _ _ _ _ _ us hl => match us, hl with | [_], _ => rfl
theorem ok_is_number (T : Fc K mg) : FnOk P w K mg base (L2.CX P w) 3 T.f_is_number T.d_is_number ["value"] (spD ⟨K, mg⟩ 1 den_is_number) :=
  okFD (k := 2) T.F_is_number sc_is_number fun cdv A outer s H E hr =>
    (dss_one (ds_ret (de_call (ok_is_between T) (hr.mono (by decide)) (by rfl) T.g_is_between T.F_is_between.kp (b_is_between T) (takes_of rfl rfl rfl rfl) (da_cons (dv 0) (da_cons (de_un uD_neg (de_gintE (by rfl) T.c_MOST_SIZE)) (da_cons (de_gintE (by rfl) T.c_MOST_SIZE) da_nil))) (len_cons (len_cons (len_cons len_nil))))))
theorem sc_wrong_in_row : FnScope ["value", "index", "each"] ["value"] (defScope s_wrong_in_row) := ⟨rfl, rfl, rfl, by decide +kernel, rfl, by decide +kernel, by decide +kernel⟩
theorem b_wrong_in_row (T : Fc K mg) : Binds K T.d_wrong_in_row ["value"] [] := T.F_wrong_in_row.bindsN fun _ _ _ _ _ _ us hl => match us, hl with | [_], _ => rfl
theorem ok_wrong_in_row (T : Fc K mg) : FnOk P w K mg base (L2.CX P w) 4 T.f_wrong_in_row T.d_wrong_in_row ["value"] (spD ⟨K, mg⟩ 1 den_wrong_in_row) :=
  okFD (k := 3) T.F_wrong_in_row sc_wrong_in_row fun cdv A outer s H E hr =>
    (dss_cons (ds_if (dt_w (dw_or (dt_not (dt_val (de_callB c_isi (by rfl) T.m_isinstance (by decide +kernel) (da_cons (dv 0) (da_cons (de_bty (by rfl) T.m_tuple (by decide +kernel)) da_nil))))) (dw_or1 (dt_not (dt_chain oD_le oD_le de_int (de_callB c_len (by rfl) T.m_len (by decide +kernel) (da_cons (dv 0) da_nil)) (de_gintE (by rfl) T.c_MOST_NUMBERS)))))) (dss_one (ds_ret (de_lst (da_cons de_non da_nil)))) dss_nil)
    (dss_one (ds_ret (de_slice (de_N (dn_lc (ts := ([1] ++ ([2] ++ []))) (g := gTup K 2 (gCons (gName 1) (gCons (gName 2) (gNil)))) rfl sc_wrong_in_row.nd (blkOk_by (own := [("index", 1), ("each", 2)]) (by show blkC ["value", "index", "each"] (defScope s_wrong_in_row) _ _ = true; decide +kernel)) (di_enum (by rfl) T.m_enumerate (da_cons (dv 0) da_nil)) (fun _ _ _ _ _ => (dg_tup rfl (dgs_cons (dg_name 1 sc_wrong_in_row.nd) (dgs_cons (dg_name 2 sc_wrong_in_row.nd) dgs_nil)))) (fun _ _ _ _ _ => dts_one (dt_not (dt_val (de_call (ok_is_number T) (hr.mono (by decide)) (by rfl) T.g_is_number T.F_is_number.kp (b_is_number T) takes0 (da_cons (dv 2) da_nil) (len_cons len_nil))))) (fun _ _ _ _ _ => (dv 1)) (by decide))) do_none (do_some de_int)))))
theorem sc_sums_by : FnScope ["row", "found", "number"] ["row"] (defScope s_sums_by) := ⟨rfl, rfl, rfl, by decide +kernel, rfl, by decide +kernel, by decide +kernel⟩
theorem b_sums_by (T : Fc K mg) : Binds K T.d_sums_by ["row"] [] := T.F_sums_by.bindsN fun _ _ _ _ _ _ us hl => match us, hl with | [_], _ => rfl
theorem ok_sums_by (T : Fc K mg) : FnOk P w K mg base (L2.CX P w) 1 T.f_sums_by T.d_sums_by ["row"] (spD ⟨K, mg⟩ 1 den_sums_by) :=
  okFD (k := 0) T.F_sums_by sc_sums_by fun cdv A outer s H E hr =>
    (dss_cons (ds_setC 1 sc_sums_by.nd (dn_lst (da_cons de_int da_nil)))
    (dss_cons (ds_for (passes_of rfl) rfl (di_val (dv 0)) (dg_name 2 sc_sums_by.nd) (dss_one (ds_expr (de_append (slot := PySem.F.slot_list_append) (pa := PySem.F.plainAttrs_list) (hty := PySem.F.type_list_append) (dv 1) (de_op oD_add (de_ix (dv 1) (de_un uD_neg de_int)) (dv 2))))))
    (dss_one (ds_ret (de_callTy c_tuple (by rfl) T.m_tuple (by decide +kernel) (da_cons (dv 1) da_nil))))))
theorem sc_above_by : FnScope ["row", "each"] ["row"] (defScope s_above_by) := ⟨rfl, rfl, rfl, by decide +kernel, rfl, by decide +kernel, by decide +kernel⟩
theorem b_above_by (T : Fc K mg) : Binds K T.d_above_by ["row"] [] := T.F_above_by.bindsN fun _ _ _ _ _ _ us hl => match us, hl with | [_], _ => rfl
theorem ok_above_by (T : Fc K mg) : FnOk P w K mg base (L2.CX P w) 2 T.f_above_by T.d_above_by ["row"] (spD ⟨K, mg⟩ 1 den_above_by) :=
  okFD (k := 1) T.F_above_by sc_above_by fun cdv A outer s H E hr =>
    (dss_one (ds_ret (de_callB c_len (by rfl) T.m_len (by decide +kernel) (da_cons (de_N (dn_lc (ts := [1]) (g := gName 1) rfl sc_above_by.nd (blkOk_by (own := [("each", 1)]) (by show blkC ["row", "each"] (defScope s_above_by) _ _ = true; decide +kernel)) (di_val (de_call (ok_sums_by T) (hr.mono (by decide)) (by rfl) T.g_sums_by T.F_sums_by.kp (b_sums_by T) (takes_of rfl rfl rfl rfl) (da_cons (dv 0) da_nil) (len_cons len_nil))) (fun _ _ _ _ _ => (dg_name 1 sc_above_by.nd)) (fun _ _ _ _ _ => dts_one (dt_cmp oD_gt (dv 1) de_int (nomark _))) (fun _ _ _ _ _ => (dv 1)) (by decide))) da_nil))))
theorem sc_highest_by : FnScope ["row"] ["row"] (defScope s_highest_by) := ⟨rfl, rfl, rfl, by decide +kernel, rfl, by decide +kernel, by decide +kernel⟩
theorem b_highest_by (T : Fc K mg) : Binds K T.d_highest_by ["row"] [] := T.F_highest_by.bindsN fun _ _ _ _ _ _ us hl => match us, hl with | [_], _ => rfl
theorem ok_highest_by (T : Fc K mg) : FnOk P w K mg base (L2.CX P w) 2 T.f_highest_by T.d_highest_by ["row"] (spD ⟨K, mg⟩ 1 den_highest_by) :=
  okFD (k := 1) T.F_highest_by sc_highest_by fun cdv A outer s H E hr =>
    (dss_one (ds_ret (de_callB (c_max rfl hr) (by rfl) T.m_max (by decide +kernel) (da_cons (de_call (ok_sums_by T) (hr.mono (by decide)) (by rfl) T.g_sums_by T.F_sums_by.kp (b_sums_by T) (takes_of rfl rfl rfl rfl) (da_cons (dv 0) da_nil) (len_cons len_nil)) da_nil))))
theorem sc_places_with : FnScope ["row", "value", "place", "each"] ["row", "value"] (defScope s_places_with) := ⟨rfl, rfl, rfl, by decide +kernel, rfl, by decide +kernel, by decide +kernel⟩
theorem b_places_with (T : Fc K mg) : Binds K T.d_places_with ["row", "value"] [] := T.F_places_with.bindsN fun _ _ _ _ _ _ us hl => match us, hl with | [_, _], _ => rfl
theorem ok_places_with (T : Fc K mg) : FnOk P w K mg base (L2.CX P w) 2 T.f_places_with T.d_places_with ["row", "value"] (spD ⟨K, mg⟩ 2 den_places_with) :=
  okFD (k := 1) T.F_places_with sc_places_with fun cdv A outer s H E hr =>
    (dss_one (ds_ret (de_N (dn_lc (ts := ([2] ++ ([3] ++ []))) (g := gTup K 2 (gCons (gName 2) (gCons (gName 3) (gNil)))) rfl sc_places_with.nd (blkOk_by (own := [("place", 2), ("each", 3)]) (by show blkC ["row", "value", "place", "each"] (defScope s_places_with) _ _ = true; decide +kernel)) (di_enum (by rfl) T.m_enumerate (da_cons (de_call (ok_sums_by T) (hr.mono (by decide)) (by rfl) T.g_sums_by T.F_sums_by.kp (b_sums_by T) (takes_of rfl rfl rfl rfl) (da_cons (dv 0) da_nil) (len_cons len_nil)) da_nil)) (fun _ _ _ _ _ => (dg_tup rfl (dgs_cons (dg_name 2 sc_places_with.nd) (dgs_cons (dg_name 3 sc_places_with.nd) dgs_nil)))) (fun _ _ _ _ _ => dts_one (dt_cmp (oD_eq hr) (dv 3) (dv 1) (nomark _))) (fun _ _ _ _ _ => (dv 2)) (by decide)))))
theorem sc_first_highest_by : FnScope ["row"] ["row"] (defScope s_first_highest_by) := ⟨rfl, rfl, rfl, by decide +kernel, rfl, by decide +kernel, by decide +kernel⟩
theorem b_first_highest_by (T : Fc K mg) : Binds K T.d_first_highest_by ["row"] [] := T.F_first_highest_by.bindsN fun _ _ _ _ _ _ us hl => match us, hl with | [_], _ => rfl
theorem ok_first_highest_by (T : Fc K mg) : FnOk P w K mg base (L2.CX P w) 3 T.f_first_highest_by T.d_first_highest_by ["row"] (spD ⟨K, mg⟩ 1 den_first_highest_by) :=
  okFD (k := 2) T.F_first_highest_by sc_first_highest_by fun cdv A outer s H E hr =>
    (dss_one (ds_ret (de_ix (de_call (ok_places_with T) (hr.mono (by decide)) (by rfl) T.g_places_with T.F_places_with.kp (b_places_with T) (takes_of rfl rfl rfl rfl) (da_cons (dv 0) (da_cons (de_call (ok_highest_by T) (hr.mono (by decide)) (by rfl) T.g_highest_by T.F_highest_by.kp (b_highest_by T) (takes_of rfl rfl rfl rfl) (da_cons (dv 0) da_nil) (len_cons len_nil)) da_nil)) (len_cons (len_cons len_nil))) de_int)))
theorem sc_moved_by : FnScope ["row", "pairs", "ahead", "number", "each"] ["row"] (defScope s_moved_by) := ⟨rfl, rfl, rfl, by decide +kernel, rfl, by decide +kernel, by decide +kernel⟩
theorem b_moved_by (T : Fc K mg) : Binds K T.d_moved_by ["row"] [] := T.F_moved_by.bindsN fun _ _ _ _ _ _ us hl => match us, hl with | [_], _ => rfl
theorem ok_moved_by (T : Fc K mg) : FnOk P w K mg base (L2.CX P w) 2 T.f_moved_by T.d_moved_by ["row"] (spD ⟨K, mg⟩ 1 den_moved_by) :=
  okFD (k := 1) T.F_moved_by sc_moved_by fun cdv A outer s H E hr =>
    (dss_cons (ds_set 1 sc_moved_by.nd (de_N (dn_lz rfl (by rfl) T.m_list (by rfl) T.m_zip (da_cons (dv 0) (da_cons (de_slice (de_call (ok_sums_by T) (hr.mono (by decide)) (by rfl) T.g_sums_by T.F_sums_by.kp (b_sums_by T) (takes_of rfl rfl rfl rfl) (da_cons (dv 0) da_nil) (len_cons len_nil)) (do_some de_int) do_none) da_nil)))))
    (dss_cons (ds_asg (i := 2) rfl (ps_lc (ts := ([3] ++ ([4] ++ []))) (g := gTup K 2 (gCons (gName 3) (gCons (gName 4) (gNil)))) (i := 2) rfl sc_moved_by.nd rfl rfl rfl (blkOk_by (own := [("number", 3), ("each", 4)]) (by show blkC ["row", "pairs", "ahead", "number", "each"] (defScope s_moved_by) _ _ = true; decide +kernel)) (di_val (dv 1)) (fun _ _ _ _ _ => (dg_tup rfl (dgs_cons (dg_name 3 sc_moved_by.nd) (dgs_cons (dg_name 4 sc_moved_by.nd) dgs_nil)))) (fun _ _ _ _ _ => dts_one (dt_cmp oD_gt (dv 4) de_int (nomark _))) (fun _ _ _ _ _ => (dv 3)) (by decide)) (fun _ _ _ h => ev_N h))
    (dss_one (ds_ret (de_callTy c_tuple (by rfl) T.m_tuple (by decide +kernel) (da_cons (de_op oD_add (de_rev (dv 2)) (de_N (dn_lc (ts := ([3] ++ ([4] ++ []))) (g := gTup K 2 (gCons (gName 3) (gCons (gName 4) (gNil)))) rfl sc_moved_by.nd (blkOk_by (own := [("number", 3), ("each", 4)]) (by show blkC ["row", "pairs", "ahead", "number", "each"] (defScope s_moved_by) _ _ = true; decide +kernel)) (di_val (dv 1)) (fun _ _ _ _ _ => (dg_tup rfl (dgs_cons (dg_name 3 sc_moved_by.nd) (dgs_cons (dg_name 4 sc_moved_by.nd) dgs_nil)))) (fun _ _ _ _ _ => dts_one (dt_cmp oD_le (dv 4) de_int (nomark _))) (fun _ _ _ _ _ => (dv 3)) (by decide)))) da_nil))))))
theorem sc_moved_back_by : FnScope ["row", "place", "ahead", "behind", "found", "some"] ["row"] (defScope s_moved_back_by) := ⟨rfl, rfl, rfl, by decide +kernel, rfl, by decide +kernel, by decide +kernel⟩
theorem b_moved_back_by (T : Fc K mg) : Binds K T.d_moved_back_by ["row"] [] := T.F_moved_back_by.bindsN fun _ _ _ _ _ _ us hl => match us, hl with | [_], _ => rfl
theorem ok_moved_back_by (T : Fc K mg) : FnOk P w K mg base (L2.CX P w) 4 T.f_moved_back_by T.d_moved_back_by ["row"] (spD ⟨K, mg⟩ 1 den_moved_back_by) :=
  okFD (k := 3) T.F_moved_back_by sc_moved_back_by fun cdv A outer s H E hr =>
    (dss_cons (ds_set 1 sc_moved_back_by.nd (de_call (ok_first_highest_by T) (hr.mono (by decide)) (by rfl) T.g_first_highest_by T.F_first_highest_by.kp (b_first_highest_by T) (takes_of rfl rfl rfl rfl) (da_cons (dv 0) da_nil) (len_cons len_nil)))
    (dss_cons (ds_par3 2 3 4 rfl sc_moved_back_by.nd (da_cons (de_NC (dn_revL (de_N (dn_callTy c_list (by rfl) T.m_list (by decide +kernel) (da_cons (de_slice (dv 0) do_none (do_some (dv 1))) da_nil))))) (da_cons (de_NC (dn_callTy c_list (by rfl) T.m_list (by decide +kernel) (da_cons (de_slice (dv 0) (do_some (dv 1)) do_none) da_nil))) (da_cons (de_NC (dn_lst da_nil)) da_nil))))
    (dss_cons (ds_while 100000 (passes_of rfl) (dt_w (dw_or (dt_cmp (oD_ne hr) (dv 2) (de_lst da_nil) (nomark _)) (dw_or1 (dt_cmp (oD_ne hr) (dv 3) (de_lst da_nil) (nomark _))))) (dss_cons (ds_set 5 sc_moved_back_by.nd (de_ifExp (dt_cmp oD_gt (de_op oD_add (de_callB (c_sum rfl) (by rfl) T.m_sum (by decide +kernel) (da_cons (dv 2) da_nil)) (de_callB (c_sum rfl) (by rfl) T.m_sum (by decide +kernel) (da_cons (dv 3) da_nil))) de_int (nomark _)) (dv 2) (dv 3)))
    (dss_one (ds_expr (de_append (slot := PySem.F.slot_list_append) (pa := PySem.F.plainAttrs_list) (hty := PySem.F.type_list_append) (dv 4) (de_pop (slot := PySem.F.slot_list_pop) (pa := PySem.F.plainAttrs_list) (hty := PySem.F.type_list_pop) (dv 5)))))))
    (dss_one (ds_ret (de_callTy c_tuple (by rfl) T.m_tuple (by decide +kernel) (da_cons (de_rev (dv 4)) da_nil)))))))
theorem sc_check_row : FnScope ["value", "index"] ["value"] (defScope s_check_row) := ⟨rfl, rfl, rfl, by decide +kernel, rfl, by decide +kernel, by decide +kernel⟩
theorem b_check_row (T : Fc K mg) : Binds K T.d_check_row ["value"] [] := T.F_check_row.bindsN fun _ _ _ _ _ _ us hl => match us, hl with | [_], _ => rfl
theorem ok_check_row (T : Fc K mg) : FnOk P w K mg base (L2.CX P w) 5 T.f_check_row T.d_check_row ["value"] (spD ⟨K, mg⟩ 1 den_check_row) :=
  okFD (k := 4) T.F_check_row sc_check_row fun cdv A outer s H E hr =>
    (dss_one (ds_for (passes_of rfl) rfl (di_val (de_call (ok_wrong_in_row T) (hr.mono (by decide)) (by rfl) T.g_wrong_in_row T.F_wrong_in_row.kp (b_wrong_in_row T) (takes_of rfl rfl rfl rfl) (da_cons (dv 0) da_nil) (len_cons len_nil))) (dg_name 1 sc_check_row.nd) (dss_one ds_bad)))
theorem sc_above : FnScope ["row"] ["row"] (defScope s_above) := ⟨rfl, rfl, rfl, by decide +kernel, rfl, by decide +kernel, by decide +kernel⟩
theorem b_above (T : Fc K mg) : Binds K T.d_above ["row"] [] := T.F_above.bindsN fun _ _ _ _ _ _ us hl => match us, hl with | [_], _ => rfl
theorem ok_above (T : Fc K mg) : FnOk P w K mg base (L2.CX P w) 6 T.f_above T.d_above ["row"] (spD ⟨K, mg⟩ 1 den_above) :=
  okFD (k := 5) T.F_above sc_above fun cdv A outer s H E hr =>
    (dss_cons (ds_expr (de_call (ok_check_row T) (hr.mono (by decide)) (by rfl) T.g_check_row T.F_check_row.kp (b_check_row T) (takes_of rfl rfl rfl rfl) (da_cons (dv 0) da_nil) (len_cons len_nil)))
    (dss_one (ds_ret (de_call (ok_above_by T) (hr.mono (by decide)) (by rfl) T.g_above_by T.F_above_by.kp (b_above_by T) (takes_of rfl rfl rfl rfl) (da_cons (dv 0) da_nil) (len_cons len_nil)))))
theorem sc_highest : FnScope ["row"] ["row"] (defScope s_highest) := ⟨rfl, rfl, rfl, by decide +kernel, rfl, by decide +kernel, by decide +kernel⟩
theorem b_highest (T : Fc K mg) : Binds K T.d_highest ["row"] [] := T.F_highest.bindsN fun _ _ _ _ _ _ us hl => match us, hl with | [_], _ => rfl
theorem ok_highest (T : Fc K mg) : FnOk P w K mg base (L2.CX P w) 6 T.f_highest T.d_highest ["row"] (spD ⟨K, mg⟩ 1 den_highest) :=
  okFD (k := 5) T.F_highest sc_highest fun cdv A outer s H E hr =>
    (dss_cons (ds_expr (de_call (ok_check_row T) (hr.mono (by decide)) (by rfl) T.g_check_row T.F_check_row.kp (b_check_row T) (takes_of rfl rfl rfl rfl) (da_cons (dv 0) da_nil) (len_cons len_nil)))
    (dss_one (ds_ret (de_call (ok_highest_by T) (hr.mono (by decide)) (by rfl) T.g_highest_by T.F_highest_by.kp (b_highest_by T) (takes_of rfl rfl rfl rfl) (da_cons (dv 0) da_nil) (len_cons len_nil)))))
theorem sc_first_highest : FnScope ["row"] ["row"] (defScope s_first_highest) := ⟨rfl, rfl, rfl, by decide +kernel, rfl, by decide +kernel, by decide +kernel⟩
theorem b_first_highest (T : Fc K mg) : Binds K T.d_first_highest ["row"] [] := T.F_first_highest.bindsN fun _ _ _ _ _ _ us hl => match us, hl with | [_], _ => rfl
theorem ok_first_highest (T : Fc K mg) : FnOk P w K mg base (L2.CX P w) 6 T.f_first_highest T.d_first_highest ["row"] (spD ⟨K, mg⟩ 1 den_first_highest) :=
  okFD (k := 5) T.F_first_highest sc_first_highest fun cdv A outer s H E hr =>
    (dss_cons (ds_expr (de_call (ok_check_row T) (hr.mono (by decide)) (by rfl) T.g_check_row T.F_check_row.kp (b_check_row T) (takes_of rfl rfl rfl rfl) (da_cons (dv 0) da_nil) (len_cons len_nil)))
    (dss_one (ds_ret (de_call (ok_first_highest_by T) (hr.mono (by decide)) (by rfl) T.g_first_highest_by T.F_first_highest_by.kp (b_first_highest_by T) (takes_of rfl rfl rfl rfl) (da_cons (dv 0) da_nil) (len_cons len_nil)))))
theorem sc_moved : FnScope ["row"] ["row"] (defScope s_moved) := ⟨rfl, rfl, rfl, by decide +kernel, rfl, by decide +kernel, by decide +kernel⟩
theorem b_moved (T : Fc K mg) : Binds K T.d_moved ["row"] [] := T.F_moved.bindsN fun _ _ _ _ _ _ us hl => match us, hl with | [_], _ => rfl
theorem ok_moved (T : Fc K mg) : FnOk P w K mg base (L2.CX P w) 6 T.f_moved T.d_moved ["row"] (spD ⟨K, mg⟩ 1 den_moved) :=
  okFD (k := 5) T.F_moved sc_moved fun cdv A outer s H E hr =>
    (dss_cons (ds_expr (de_call (ok_check_row T) (hr.mono (by decide)) (by rfl) T.g_check_row T.F_check_row.kp (b_check_row T) (takes_of rfl rfl rfl rfl) (da_cons (dv 0) da_nil) (len_cons len_nil)))
    (dss_one (ds_ret (de_call (ok_moved_by T) (hr.mono (by decide)) (by rfl) T.g_moved_by T.F_moved_by.kp (b_moved_by T) (takes_of rfl rfl rfl rfl) (da_cons (dv 0) da_nil) (len_cons len_nil)))))
theorem sc_moved_back : FnScope ["row"] ["row"] (defScope s_moved_back) := ⟨rfl, rfl, rfl, by decide +kernel, rfl, by decide +kernel, by decide +kernel⟩
theorem b_moved_back (T : Fc K mg) : Binds K T.d_moved_back ["row"] [] := T.F_moved_back.bindsN fun _ _ _ _ _ _ us hl => match us, hl with | [_], _ => rfl
theorem ok_moved_back (T : Fc K mg) : FnOk P w K mg base (L2.CX P w) 6 T.f_moved_back T.d_moved_back ["row"] (spD ⟨K, mg⟩ 1 den_moved_back) :=
  okFD (k := 5) T.F_moved_back sc_moved_back fun cdv A outer s H E hr =>
    (dss_cons (ds_expr (de_call (ok_check_row T) (hr.mono (by decide)) (by rfl) T.g_check_row T.F_check_row.kp (b_check_row T) (takes_of rfl rfl rfl rfl) (da_cons (dv 0) da_nil) (len_cons len_nil)))
    (dss_one (ds_ret (de_call (ok_moved_back_by T) (hr.mono (by decide)) (by rfl) T.g_moved_back_by T.F_moved_back_by.kp (b_moved_back_by T) (takes_of rfl rfl rfl rfl) (da_cons (dv 0) da_nil) (len_cons len_nil)))))
theorem sc__law_pool : FnScope ["script", "lap", "cell", "stirred", "each"] ["script", "lap"] (defScope s__law_pool) := ⟨rfl, rfl, rfl, by decide +kernel, rfl, by decide +kernel, by decide +kernel⟩
theorem b__law_pool (T : Fc K mg) : Binds K T.d__law_pool ["script", "lap"] [] := T.F__law_pool.bindsN fun _ _ _ _ _ _ us hl => match us, hl with | [_, _], _ => rfl
theorem ok__law_pool (T : Fc K mg) : FnOk P w K mg base (L2.CX P w) 1 T.f__law_pool T.d__law_pool ["script", "lap"] (spD ⟨K, mg⟩ 2 den__law_pool) :=
  okKD (k := 0) T.F__law_pool sc__law_pool fun cdv A outer s H E hr =>
    (dss_cons (ds_set 2 sc__law_pool.nd (de_ifExp (dt_cmp oD_lt (dv 1) (de_callB c_len (by rfl) T.m_len (by decide +kernel) (da_cons (dv 0) da_nil)) (nomark _)) (de_callTy c_int (by rfl) T.m_int (by decide +kernel) (da_cons (de_ix (dv 0) (dv 1)) da_nil)) (de_op oD_add (de_op oD_mul de_int (dv 1)) de_int)))
    (dss_cons (ds_set 3 sc__law_pool.nd (de_op oD_add de_int (de_op oD_mul de_int (dv 1))))
    (dss_cons (ds_for (passes_of rfl) rfl (di_val (de_slice (dv 0) do_none (do_some de_int))) (dg_name 4 sc__law_pool.nd) (dss_one (ds_set 3 sc__law_pool.nd (de_op oD_mod (de_callTy c_int (by rfl) T.m_int (by decide +kernel) (da_cons (de_op oD_add (de_op oD_add (de_op oD_mul (dv 3) de_int) (de_op oD_mod (de_callTy c_int (by rfl) T.m_int (by decide +kernel) (da_cons (dv 4) da_nil)) de_int)) de_int) da_nil)) de_int))))
    (dss_cons (ds_set 3 sc__law_pool.nd (de_op oD_mod (de_callTy c_int (by rfl) T.m_int (by decide +kernel) (da_cons (de_op oD_add (de_op oD_add (de_op oD_mul (dv 3) de_int) (de_op oD_mul (de_op oD_mod (de_callTy c_int (by rfl) T.m_int (by decide +kernel) (da_cons (dv 2) da_nil)) de_int) de_int)) de_int) da_nil)) de_int))
    (dss_one (ds_retC (dn_lst (da_cons (de_ifExp (dt_w (dw_or (dt_cmp oD_lt (dv 2) de_int (nomark _)) (dw_or1 (dt_cmp oD_ge (dv 2) (de_op oD_pow de_int de_int) (nomark _))))) (de_op oD_mod (de_callTy c_int (by rfl) T.m_int (by decide +kernel) (da_cons (de_callB c_abs (by rfl) T.m_abs (by decide +kernel) (da_cons (dv 2) da_nil)) da_nil)) (de_op oD_pow de_int de_int)) de_int) (da_cons (dv 3) (da_cons de_int da_nil))))))))))
theorem sc__law_below : FnScope ["pool", "many", "figure", "stirred"] ["pool", "many"] (defScope s__law_below) := ⟨rfl, rfl, rfl, by decide +kernel, rfl, by decide +kernel, by decide +kernel⟩
theorem b__law_below (T : Fc K mg) : Binds K T.d__law_below ["pool", "many"] [] := T.F__law_below.bindsN fun _ _ _ _ _ _ us hl => match us, hl with | [_, _], _ => rfl
theorem ok__law_below (T : Fc K mg) : FnOk P w K mg base (L2.CX P w) 1 T.f__law_below T.d__law_below ["pool", "many"] (spD ⟨K, mg⟩ 2 den__law_below) :=
  okFD (k := 0) T.F__law_below sc__law_below fun cdv A outer s H E hr =>
    (dss_cons (ds_if (dt_cmp oD_gt (de_ix (dv 0) de_int) de_int (nomark _)) (dss_cons (ds_asgX (de_callB c_divmod (by rfl) T.m_divmod (by decide +kernel) (da_cons (de_ix (dv 0) de_int) (da_cons (dv 1) da_nil))) (dgx_tup rfl (dgxs_cons (dgx_sub (dv 0) de_int) (dgxs_cons (dgx_of (dg_name 2 sc__law_below.nd)) dgxs_nil))))
    (dss_one (ds_ret (dv 2)))) dss_nil)
    (dss_cons (ds_asgX (de_op oD_add (de_ix (dv 0) de_int) de_int) (dgx_sub (dv 0) de_int))
    (dss_cons (ds_set 3 sc__law_below.nd (de_op oD_mod (de_callTy c_int (by rfl) T.m_int (by decide +kernel) (da_cons (de_op oD_add (de_op oD_add (de_op oD_mul (de_ix (dv 0) de_int) de_int) (de_op oD_mul de_int (de_ix (dv 0) de_int))) de_int) da_nil)) de_int))
    (dss_cons (ds_asgX (de_op oD_mod (de_callTy c_int (by rfl) T.m_int (by decide +kernel) (da_cons (de_op oD_add (de_op oD_mul (dv 3) (de_op oD_add (de_op oD_mod (de_callTy c_int (by rfl) T.m_int (by decide +kernel) (da_cons (dv 3) da_nil)) de_int) de_int)) (de_ix (dv 0) de_int)) da_nil)) de_int) (dgx_sub (dv 0) de_int))
    (dss_one (ds_ret (de_op oD_mod (de_callTy c_int (by rfl) T.m_int (by decide +kernel) (da_cons (de_op oD_fdiv (de_ix (dv 0) de_int) de_int) da_nil)) (dv 1))))))))
theorem sc__law_one : FnScope ["pool", "some"] ["pool", "some"] (defScope s__law_one) := ⟨rfl, rfl, rfl, by decide +kernel, rfl, by decide +kernel, by decide +kernel⟩
theorem b__law_one (T : Fc K mg) : Binds K T.d__law_one ["pool", "some"] [] := T.F__law_one.bindsN fun _ _ _ _ _ _ us hl => match us, hl with | [_, _], _ => rfl
theorem ok__law_one (T : Fc K mg) : FnOk P w K mg base (L2.CX P w) 2 T.f__law_one T.d__law_one ["pool", "some"] (spD ⟨K, mg⟩ 2 den__law_one) :=
  okFD (k := 1) T.F__law_one sc__law_one fun cdv A outer s H E hr =>
    (dss_one (ds_ret (de_ix (dv 1) (de_call (ok__law_below T) (hr.mono (by decide)) (by rfl) T.g__law_below T.F__law_below.kp (b__law_below T) (takes_of rfl rfl rfl rfl) (da_cons (dv 0) (da_cons (de_callB c_len (by rfl) T.m_len (by decide +kernel) (da_cons (dv 1) da_nil)) da_nil)) (len_cons (len_cons len_nil))))))
theorem sc__law_row : FnScope ["pool", "most", "high", "lap"] ["pool", "most"] (defScope s__law_row) := ⟨rfl, rfl, rfl, by decide +kernel, rfl, by decide +kernel, by decide +kernel⟩
theorem b__law_row (T : Fc K mg) : Binds K T.d__law_row ["pool", "most"] [] := T.F__law_row.bindsN fun _ _ _ _ _ _ us hl => match us, hl with | [_, _], _ => rfl
theorem ok__law_row (T : Fc K mg) : FnOk P w K mg base (L2.CX P w) 3 T.f__law_row T.d__law_row ["pool", "most"] (spD ⟨K, mg⟩ 2 den__law_row) :=
  okFD (k := 2) T.F__law_row sc__law_row fun cdv A outer s H E hr =>
    (dss_cons (ds_set 2 sc__law_row.nd (de_call (ok__law_one T) (hr.mono (by decide)) (by rfl) T.g__law_one T.F__law_one.kp (b__law_one T) (takes_of rfl rfl rfl rfl) (da_cons (dv 0) (da_cons (de_tup (da_cons de_int (da_cons de_int (da_cons de_int da_nil)))) da_nil)) (len_cons (len_cons len_nil))))
    (dss_one (ds_ret (de_callTy c_tuple (by rfl) T.m_tuple (by decide +kernel) (da_cons (de_N (dn_lc (ts := [3]) (g := gName 3) rfl sc__law_row.nd (blkOk_by (own := [("lap", 3)]) (by show blkC ["pool", "most", "high", "lap"] (defScope s__law_row) _ _ = true; decide +kernel)) (di_range1 (by rfl) T.m_range (da_cons (de_op oD_add de_int (de_call (ok__law_below T) (hr.mono (by decide)) (by rfl) T.g__law_below T.F__law_below.kp (b__law_below T) (takes_of rfl rfl rfl rfl) (da_cons (dv 0) (da_cons (dv 1) da_nil)) (len_cons (len_cons len_nil)))) da_nil) (len_cons len_nil)) (fun _ _ _ _ _ => (dg_name 3 sc__law_row.nd)) (fun _ _ _ _ _ => dts_nil) (fun _ _ _ _ _ => (de_op oD_sub (de_call (ok__law_below T) (hr.mono (by decide)) (by rfl) T.g__law_below T.F__law_below.kp (b__law_below T) takes0 (da_cons (dv 0) (da_cons (de_op oD_add (de_op oD_mul de_int (dv 2)) de_int) da_nil)) (len_cons (len_cons len_nil))) (dv 2))) (by decide))) da_nil)))))
theorem sc__law_sums : FnScope ["row", "found", "each"] ["row"] (defScope s__law_sums) := ⟨rfl, rfl, rfl, by decide +kernel, rfl, by decide +kernel, by decide +kernel⟩
theorem b__law_sums (T : Fc K mg) : Binds K T.d__law_sums ["row"] [] := T.F__law_sums.bindsN fun _ _ _ _ _ _ us hl => match us, hl with | [_], _ => rfl
theorem ok__law_sums (T : Fc K mg) : FnOk P w K mg base (L2.CX P w) 1 T.f__law_sums T.d__law_sums ["row"] (spD ⟨K, mg⟩ 1 den__law_sums) :=
  okFD (k := 0) T.F__law_sums sc__law_sums fun cdv A outer s H E hr =>
    (dss_cons (ds_setC 1 sc__law_sums.nd (dn_lst (da_cons de_int da_nil)))
    (dss_cons (ds_for (passes_of rfl) rfl (di_val (dv 0)) (dg_name 2 sc__law_sums.nd) (dss_one (ds_expr (de_append (slot := PySem.F.slot_list_append) (pa := PySem.F.plainAttrs_list) (hty := PySem.F.type_list_append) (dv 1) (de_op oD_add (de_ix (dv 1) (de_un uD_neg de_int)) (dv 2))))))
    (dss_one (ds_ret (dv 1)))))
theorem sc__law_moved : FnScope ["row", "sums", "up", "each", "here"] ["row"] (defScope s__law_moved) := ⟨rfl, rfl, rfl, by decide +kernel, rfl, by decide +kernel, by decide +kernel⟩
theorem b__law_moved (T : Fc K mg) : Binds K T.d__law_moved ["row"] [] := T.F__law_moved.bindsN fun _ _ _ _ _ _ us hl => match us, hl with | [_], _ => rfl
theorem ok__law_moved (T : Fc K mg) : FnOk P w K mg base (L2.CX P w) 2 T.f__law_moved T.d__law_moved ["row"] (spD ⟨K, mg⟩ 1 den__law_moved) :=
  okFD (k := 1) T.F__law_moved sc__law_moved fun cdv A outer s H E hr =>
    (dss_cons (ds_set 1 sc__law_moved.nd (de_call (ok__law_sums T) (hr.mono (by decide)) (by rfl) T.g__law_sums T.F__law_sums.kp (b__law_sums T) (takes_of rfl rfl rfl rfl) (da_cons (dv 0) da_nil) (len_cons len_nil)))
    (dss_cons (ds_asg (i := 2) rfl (ps_lc (ts := ([3] ++ ([4] ++ []))) (g := gTup K 2 (gCons (gName 3) (gCons (gName 4) (gNil)))) (i := 2) rfl sc__law_moved.nd rfl rfl rfl (blkOk_by (own := [("each", 3), ("here", 4)]) (by show blkC ["row", "sums", "up", "each", "here"] (defScope s__law_moved) _ _ = true; decide +kernel)) (di_zipM (by rfl) T.m_zip (da_cons (dv 0) (da_cons (de_slice (dv 1) (do_some de_int) do_none) da_nil))) (fun _ _ _ _ _ => (dg_tup rfl (dgs_cons (dg_name 3 sc__law_moved.nd) (dgs_cons (dg_name 4 sc__law_moved.nd) dgs_nil)))) (fun _ _ _ _ _ => dts_one (dt_cmp oD_gt (dv 4) de_int (nomark _))) (fun _ _ _ _ _ => (dv 3)) (by decide)) (fun _ _ _ h => ev_N h))
    (dss_one (ds_ret (de_callTy c_tuple (by rfl) T.m_tuple (by decide +kernel) (da_cons (de_op oD_add (de_rev (dv 2)) (de_N (dn_lc (ts := ([3] ++ ([4] ++ []))) (g := gTup K 2 (gCons (gName 3) (gCons (gName 4) (gNil)))) rfl sc__law_moved.nd (blkOk_by (own := [("each", 3), ("here", 4)]) (by show blkC ["row", "sums", "up", "each", "here"] (defScope s__law_moved) _ _ = true; decide +kernel)) (di_zipM (by rfl) T.m_zip (da_cons (dv 0) (da_cons (de_slice (dv 1) (do_some de_int) do_none) da_nil))) (fun _ _ _ _ _ => (dg_tup rfl (dgs_cons (dg_name 3 sc__law_moved.nd) (dgs_cons (dg_name 4 sc__law_moved.nd) dgs_nil)))) (fun _ _ _ _ _ => dts_one (dt_cmp oD_le (dv 4) de_int (nomark _))) (fun _ _ _ _ _ => (dv 3)) (by decide)))) da_nil))))))
theorem sc__law_same : FnScope ["told", "due", "key", "x", "y"] ["told", "due"] (defScope s__law_same) := ⟨rfl, rfl, rfl, by decide +kernel, rfl, by decide +kernel, by decide +kernel⟩
theorem b__law_same (T : Fc K mg) : Binds K T.d__law_same ["told", "due"] [] := T.F__law_same.bindsN fun _ _ _ _ _ _ us hl => match us, hl with | [_, _], _ => rfl
theorem ok__law_same (T : Fc K mg) : ∀ n, FnOk P w K mg base (L2.CX P w) (1 + n) T.f__law_same T.d__law_same ["told", "due"] (spD ⟨K, mg⟩ 2 (den__law_same n))
  | 0 => okBad (k := 0) T.F__law_same sc__law_same
  | n + 1 => okFD (k := 1 + n) T.F__law_same sc__law_same fun cdv A outer s H E hrec =>
    have ih := ok__law_same T n
    have hr : Room 1 _ := hrec.mono (by omega)
    (dss_cons (ds_if (dt_cmp oD_isNon (dv 1) de_non (nomark _)) (dss_one (ds_ret (de_cmp oD_isNon (dv 0) de_non (nomark _)))) dss_nil)
    (dss_cons (ds_if (dt_val (de_callB c_isi (by rfl) T.m_isinstance (by decide +kernel) (da_cons (dv 1) (da_cons (de_bty (by rfl) T.m_bool (by decide +kernel)) da_nil)))) (dss_one (ds_ret (de_and (de_callB c_isi (by rfl) T.m_isinstance (by decide +kernel) (da_cons (dv 0) (da_cons (de_bty (by rfl) T.m_bool (by decide +kernel)) da_nil))) (de_one (de_cmp (oD_eq hr) (dv 0) (dv 1) (nomark _)))))) dss_nil)
    (dss_cons (ds_if (dt_val (de_callB c_isi (by rfl) T.m_isinstance (by decide +kernel) (da_cons (dv 1) (da_cons (de_bty (by rfl) T.m_int (by decide +kernel)) da_nil)))) (dss_one (ds_ret (de_and (de_callB c_isi (by rfl) T.m_isinstance (by decide +kernel) (da_cons (dv 0) (da_cons (de_bty (by rfl) T.m_int (by decide +kernel)) da_nil))) (de_and (de_not (de_callB c_isi (by rfl) T.m_isinstance (by decide +kernel) (da_cons (dv 0) (da_cons (de_bty (by rfl) T.m_bool (by decide +kernel)) da_nil)))) (de_one (de_cmp (oD_eq hr) (dv 0) (dv 1) (nomark _))))))) dss_nil)
    (dss_cons (ds_if (dt_val (de_callB c_isi (by rfl) T.m_isinstance (by decide +kernel) (da_cons (dv 1) (da_cons (de_bty (by rfl) T.m_str (by decide +kernel)) da_nil)))) (dss_one (ds_ret (de_and (de_callB c_isi (by rfl) T.m_isinstance (by decide +kernel) (da_cons (dv 0) (da_cons (de_bty (by rfl) T.m_str (by decide +kernel)) da_nil))) (de_one (de_cmp (oD_eq hr) (dv 0) (dv 1) (nomark _)))))) dss_nil)
    (dss_cons (ds_if (dt_val (de_callB c_isi (by rfl) T.m_isinstance (by decide +kernel) (da_cons (dv 1) (da_cons (de_bty (by rfl) T.m_dict (by decide +kernel)) da_nil)))) (dss_cons (ds_if (dt_w (dw_or (dt_not (dt_val (de_callB c_isi (by rfl) T.m_isinstance (by decide +kernel) (da_cons (dv 0) (da_cons (de_bty (by rfl) T.m_dict (by decide +kernel)) da_nil))))) (dw_or1 (dt_cmp (oD_ne hr) (de_callB c_len (by rfl) T.m_len (by decide +kernel) (da_cons (dv 0) da_nil)) (de_callB c_len (by rfl) T.m_len (by decide +kernel) (da_cons (dv 1) da_nil)) (nomark _))))) (dss_one (ds_ret de_bl)) dss_nil)
    (dss_one (ds_ret (de_callB (c_all rfl) (by rfl) T.m_all (by decide +kernel) (da_cons (de_N (dn_lc (ts := [2]) (g := gName 2) rfl sc__law_same.nd (blkOk_by (own := [("key", 2)]) (by show blkC ["told", "due", "key", "x", "y"] (defScope s__law_same) _ _ = true; decide +kernel)) (di_val (dv 1)) (fun _ _ _ _ _ => (dg_name 2 sc__law_same.nd)) (fun _ _ _ _ _ => dts_nil) (fun _ _ _ _ _ => (de_and (de_cmp (oD_in hr) (dv 2) (dv 0) rfl) (de_one (de_call ih hrec (by rfl) T.g__law_same T.F__law_same.kp (b__law_same T) takes0 (da_cons (de_ix (dv 0) (dv 2)) (da_cons (de_ix (dv 1) (dv 2)) da_nil)) (len_cons (len_cons len_nil)))))) (by decide))) da_nil))))) dss_nil)
    (dss_cons (ds_if (dt_w (dw_or (dt_cmp (oD_ne hr) (de_callB c_isi (by rfl) T.m_isinstance (by decide +kernel) (da_cons (dv 1) (da_cons (de_bty (by rfl) T.m_tuple (by decide +kernel)) da_nil))) (de_callB c_isi (by rfl) T.m_isinstance (by decide +kernel) (da_cons (dv 0) (da_cons (de_bty (by rfl) T.m_tuple (by decide +kernel)) da_nil))) (nomark _)) (dw_or1 (dt_cmp (oD_ne hr) (de_callB c_isi (by rfl) T.m_isinstance (by decide +kernel) (da_cons (dv 1) (da_cons (de_bty (by rfl) T.m_list (by decide +kernel)) da_nil))) (de_callB c_isi (by rfl) T.m_isinstance (by decide +kernel) (da_cons (dv 0) (da_cons (de_bty (by rfl) T.m_list (by decide +kernel)) da_nil))) (nomark _))))) (dss_one (ds_ret de_bl)) dss_nil)
    (dss_one (ds_ret (de_and (de_cmp (oD_eq hr) (de_callB c_len (by rfl) T.m_len (by decide +kernel) (da_cons (dv 0) da_nil)) (de_callB c_len (by rfl) T.m_len (by decide +kernel) (da_cons (dv 1) da_nil)) (nomark _)) (de_one (de_callB (c_all rfl) (by rfl) T.m_all (by decide +kernel) (da_cons (de_N (dn_lc (ts := ([3] ++ ([4] ++ []))) (g := gTup K 2 (gCons (gName 3) (gCons (gName 4) (gNil)))) rfl sc__law_same.nd (blkOk_by (own := [("x", 3), ("y", 4)]) (by show blkC ["told", "due", "key", "x", "y"] (defScope s__law_same) _ _ = true; decide +kernel)) (di_zip (by rfl) T.m_zip (da_cons (dv 0) (da_cons (dv 1) da_nil))) (fun _ _ _ _ _ => (dg_tup rfl (dgs_cons (dg_name 3 sc__law_same.nd) (dgs_cons (dg_name 4 sc__law_same.nd) dgs_nil)))) (fun _ _ _ _ _ => dts_nil) (fun _ _ _ _ _ => (de_call ih hrec (by rfl) T.g__law_same T.F__law_same.kp (b__law_same T) takes0 (da_cons (dv 3) (da_cons (dv 4) da_nil)) (len_cons (len_cons len_nil)))) (by decide))) da_nil))))))))))))
theorem sc__law_right : FnScope ["pool", "lap", "row", "told", "up", "each", "here"] ["pool"] (defScope s__law_right) := ⟨rfl, rfl, rfl, by decide +kernel, rfl, by decide +kernel, by decide +kernel⟩
theorem b__law_right (T : Fc K mg) : Binds K T.d__law_right ["pool"] [] := T.F__law_right.bindsN fun _ _ _ _ _ _ us hl => match us, hl with | [_], _ => rfl
theorem ok__law_right (T : Fc K mg) : FnOk P w K mg base (L2.CX P w) 10 T.f__law_right T.d__law_right ["pool"] (spD ⟨K, mg⟩ 1 den__law_right) :=
  okFD (k := 9) T.F__law_right sc__law_right fun cdv A outer s H E hr =>
    (dss_cons (ds_for (passes_of rfl) rfl (di_range1 (by rfl) T.m_range (da_cons de_int da_nil) (len_cons len_nil)) (dg_name 1 sc__law_right.nd) (dss_cons (ds_set 2 sc__law_right.nd (de_call (ok__law_row T) (hr.mono (by decide)) (by rfl) T.g__law_row T.F__law_row.kp (b__law_row T) (takes_of rfl rfl rfl rfl) (da_cons (dv 0) (da_cons de_int da_nil)) (len_cons (len_cons len_nil))))
    (dss_cons (ds_set 3 sc__law_right.nd (de_ifExp (dt_cmp (oD_eq hr) (dv 1) de_int (nomark _)) (de_callK0 (ok_moved T) (hr.mono (by decide)) (by rfl) T.g_moved T.F_moved.kp (takes_of rfl rfl rfl rfl) [0] (kb_moved_0_row T) kb_moved_0_row_l (dk_cons (dv 2) dk_nil) (len_cons len_nil)) (de_call (ok_moved T) (hr.mono (by decide)) (by rfl) T.g_moved T.F_moved.kp (b_moved T) (takes_of rfl rfl rfl rfl) (da_cons (dv 2) da_nil) (len_cons len_nil))))
    (dss_cons (ds_asg (i := 4) rfl (ps_lc (ts := ([5] ++ ([6] ++ []))) (g := gTup K 2 (gCons (gName 5) (gCons (gName 6) (gNil)))) (i := 4) rfl sc__law_right.nd rfl rfl rfl (blkOk_by (own := [("each", 5), ("here", 6)]) (by show blkC ["pool", "lap", "row", "told", "up", "each", "here"] (defScope s__law_right) _ _ = true; decide +kernel)) (di_zipM (by rfl) T.m_zip (da_cons (dv 2) (da_cons (de_slice (de_call (ok__law_sums T) (hr.mono (by decide)) (by rfl) T.g__law_sums T.F__law_sums.kp (b__law_sums T) (takes_of rfl rfl rfl rfl) (da_cons (dv 2) da_nil) (len_cons len_nil)) (do_some de_int) do_none) da_nil))) (fun _ _ _ _ _ => (dg_tup rfl (dgs_cons (dg_name 5 sc__law_right.nd) (dgs_cons (dg_name 6 sc__law_right.nd) dgs_nil)))) (fun _ _ _ _ _ => dts_one (dt_cmp oD_gt (dv 6) de_int (nomark _))) (fun _ _ _ _ _ => (dv 5)) (by decide)) (fun _ _ _ h => ev_N h))
    (dss_cons (ds_if (dt_w (dw_or (dt_not (dt_val (de_call (ok__law_same T 8) (hr.mono (by decide)) (by rfl) T.g__law_same T.F__law_same.kp (b__law_same T) (takes_of rfl rfl rfl rfl) (da_cons (dv 3) (da_cons (de_call (ok__law_moved T) (hr.mono (by decide)) (by rfl) T.g__law_moved T.F__law_moved.kp (b__law_moved T) (takes_of rfl rfl rfl rfl) (da_cons (dv 2) da_nil) (len_cons len_nil)) da_nil)) (len_cons (len_cons len_nil))))) (dw_or (dt_cmp (oD_ne hr) (de_call (ok_first_highest T) (hr.mono (by decide)) (by rfl) T.g_first_highest T.F_first_highest.kp (b_first_highest T) (takes_of rfl rfl rfl rfl) (da_cons (dv 3) da_nil) (len_cons len_nil)) (de_call (ok_above T) (hr.mono (by decide)) (by rfl) T.g_above T.F_above.kp (b_above T) (takes_of rfl rfl rfl rfl) (da_cons (dv 2) da_nil) (len_cons len_nil)) (nomark _)) (dw_or1 (dt_cmp (oD_ne hr) (de_call (ok_highest T) (hr.mono (by decide)) (by rfl) T.g_highest T.F_highest.kp (b_highest T) (takes_of rfl rfl rfl rfl) (da_cons (dv 3) da_nil) (len_cons len_nil)) (de_callB (c_sum rfl) (by rfl) T.m_sum (by decide +kernel) (da_cons (dv 4) da_nil)) (nomark _)))))) (dss_one (ds_ret de_bl)) dss_nil)
    (dss_cons (ds_if (dt_w (dw_or (dt_not (dt_val (de_call (ok__law_same T 8) (hr.mono (by decide)) (by rfl) T.g__law_same T.F__law_same.kp (b__law_same T) (takes_of rfl rfl rfl rfl) (da_cons (de_ifExp (dt_cmp (oD_eq hr) (dv 1) de_int (nomark _)) (de_callK0 (ok_moved_back T) (hr.mono (by decide)) (by rfl) T.g_moved_back T.F_moved_back.kp (takes_of rfl rfl rfl rfl) [0] (kb_moved_back_0_row T) kb_moved_back_0_row_l (dk_cons (dv 3) dk_nil) (len_cons len_nil)) (de_call (ok_moved_back T) (hr.mono (by decide)) (by rfl) T.g_moved_back T.F_moved_back.kp (b_moved_back T) (takes_of rfl rfl rfl rfl) (da_cons (dv 3) da_nil) (len_cons len_nil))) (da_cons (dv 2) da_nil)) (len_cons (len_cons len_nil))))) (dw_or1 (dt_cmp (oD_ne hr) (de_call (ok_moved T) (hr.mono (by decide)) (by rfl) T.g_moved T.F_moved.kp (b_moved T) (takes_of rfl rfl rfl rfl) (da_cons (de_call (ok_moved_back T) (hr.mono (by decide)) (by rfl) T.g_moved_back T.F_moved_back.kp (b_moved_back T) (takes_of rfl rfl rfl rfl) (da_cons (dv 2) da_nil) (len_cons len_nil)) da_nil) (len_cons len_nil)) (dv 2) (nomark _))))) (dss_one (ds_ret de_bl)) dss_nil)
    (dss_one (ds_if (dt_cmp (oD_ne hr) (de_call (ok_above T) (hr.mono (by decide)) (by rfl) T.g_above T.F_above.kp (b_above T) (takes_of rfl rfl rfl rfl) (da_cons (de_call (ok_moved_back T) (hr.mono (by decide)) (by rfl) T.g_moved_back T.F_moved_back.kp (b_moved_back T) (takes_of rfl rfl rfl rfl) (da_cons (dv 2) da_nil) (len_cons len_nil)) da_nil) (len_cons len_nil)) (de_call (ok_first_highest T) (hr.mono (by decide)) (by rfl) T.g_first_highest T.F_first_highest.kp (b_first_highest T) (takes_of rfl rfl rfl rfl) (da_cons (dv 2) da_nil) (len_cons len_nil)) (nomark _)) (dss_one (ds_ret de_bl)) dss_nil))))))))
    (dss_one (ds_ret (de_call (ok__law_same T 8) (hr.mono (by decide)) (by rfl) T.g__law_same T.F__law_same.kp (b__law_same T) (takes_of rfl rfl rfl rfl) (da_cons (de_tup (da_cons (de_call (ok_moved T) (hr.mono (by decide)) (by rfl) T.g_moved T.F_moved.kp (b_moved T) (takes_of rfl rfl rfl rfl) (da_cons (de_tup (da_cons de_int (da_cons (de_un uD_neg de_int) da_nil))) da_nil) (len_cons len_nil)) (da_cons (de_call (ok_moved T) (hr.mono (by decide)) (by rfl) T.g_moved T.F_moved.kp (b_moved T) (takes_of rfl rfl rfl rfl) (da_cons (de_tup (da_cons (de_un uD_neg de_int) (da_cons de_int da_nil))) da_nil) (len_cons len_nil)) (da_cons (de_call (ok_moved T) (hr.mono (by decide)) (by rfl) T.g_moved T.F_moved.kp (b_moved T) (takes_of rfl rfl rfl rfl) (da_cons (de_tup (da_cons de_int (da_cons (de_un uD_neg de_int) da_nil))) da_nil) (len_cons len_nil)) (da_cons (de_call (ok_moved T) (hr.mono (by decide)) (by rfl) T.g_moved T.F_moved.kp (b_moved T) (takes_of rfl rfl rfl rfl) (da_cons (de_tup (da_cons (de_un uD_neg de_int) (da_cons de_int da_nil))) da_nil) (len_cons len_nil)) da_nil))))) (da_cons (de_tup (da_cons (de_tup (da_cons (de_un uD_neg de_int) (da_cons de_int da_nil))) (da_cons (de_tup (da_cons de_int (da_cons (de_un uD_neg de_int) da_nil))) (da_cons (de_tup (da_cons de_int (da_cons (de_un uD_neg de_int) da_nil))) (da_cons (de_tup (da_cons (de_un uD_neg de_int) (da_cons de_int da_nil))) da_nil))))) da_nil)) (len_cons (len_cons len_nil))))))
theorem sc_law : FnScope ["script", "lap"] ["script"] (defScope s_law) := ⟨rfl, rfl, rfl, by decide +kernel, rfl, by decide +kernel, by decide +kernel⟩
theorem b_law (T : Fc K mg) : Binds K T.d_law ["script"] [] := T.F_law.bindsN fun _ _ _ _ _ _ us hl => match us, hl with | [_], _ => rfl
theorem ok_law (T : Fc K mg) : FnOk P w K mg base (L2.CX P w) 11 T.f_law T.d_law ["script"] (spD ⟨K, mg⟩ 1 den_law) :=
  okFD (k := 10) T.F_law sc_law fun cdv A outer s H E hr =>
    (dss_one (ds_ret (de_callB (c_all rfl) (by rfl) T.m_all (by decide +kernel) (da_cons (de_N (dn_lc (ts := [1]) (g := gName 1) rfl sc_law.nd (blkOk_by (own := [("lap", 1)]) (by show blkC ["script", "lap"] (defScope s_law) _ _ = true; decide +kernel)) (di_range1 (by rfl) T.m_range (da_cons (de_callB (c_max rfl hr) (by rfl) T.m_max (by decide +kernel) (da_cons de_int (da_cons (de_callB (c_min rfl hr) (by rfl) T.m_min (by decide +kernel) (da_cons (de_callB c_len (by rfl) T.m_len (by decide +kernel) (da_cons (dv 0) da_nil)) (da_cons de_int da_nil))) da_nil))) da_nil) (len_cons len_nil)) (fun _ _ _ _ _ => (dg_name 1 sc_law.nd)) (fun _ _ _ _ _ => dts_nil) (fun _ _ _ _ _ => (de_call (ok__law_right T) (hr.mono (by decide)) (by rfl) T.g__law_right T.F__law_right.kp (b__law_right T) takes0 (da_cons (de_call (ok__law_pool T) (hr.mono (by decide)) (by rfl) T.g__law_pool T.F__law_pool.kp (b__law_pool T) takes0 (da_cons (dv 0) (da_cons (dv 1) da_nil)) (len_cons (len_cons len_nil))) da_nil) (len_cons len_nil))) (by decide))) da_nil))))
end
/-! ### the head -/
def D_is_whole : He.DefD := ⟨("is_whole", none), "is_whole", "is_whole", defArgs s_is_whole, defBody s_is_whole, defScope s_is_whole, [], []⟩
def D_is_between : He.DefD := ⟨("is_between", none), "is_between", "is_between", defArgs s_is_between, defBody s_is_between, defScope s_is_between, [], []⟩
def D_is_number : He.DefD := ⟨("is_number", none), "is_number", "is_number", defArgs s_is_number, defBody s_is_number, defScope s_is_number, [], []⟩
def D_wrong_in_row : He.DefD := ⟨("wrong_in_row", none), "wrong_in_row", "wrong_in_row", defArgs s_wrong_in_row, defBody s_wrong_in_row, defScope s_wrong_in_row, [], []⟩
def D_sums_by : He.DefD := ⟨("sums_by", none), "sums_by", "sums_by", defArgs s_sums_by, defBody s_sums_by, defScope s_sums_by, [], []⟩
def D_above_by : He.DefD := ⟨("above_by", none), "above_by", "above_by", defArgs s_above_by, defBody s_above_by, defScope s_above_by, [], []⟩
def D_highest_by : He.DefD := ⟨("highest_by", none), "highest_by", "highest_by", defArgs s_highest_by, defBody s_highest_by, defScope s_highest_by, [], []⟩
def D_places_with : He.DefD := ⟨("places_with", none), "places_with", "places_with", defArgs s_places_with, defBody s_places_with, defScope s_places_with, [], []⟩
def D_first_highest_by : He.DefD := ⟨("first_highest_by", none), "first_highest_by", "first_highest_by", defArgs s_first_highest_by, defBody s_first_highest_by, defScope s_first_highest_by, [], []⟩
def D_moved_by : He.DefD := ⟨("moved_by", none), "moved_by", "moved_by", defArgs s_moved_by, defBody s_moved_by, defScope s_moved_by, [], []⟩
def D_moved_back_by : He.DefD := ⟨("moved_back_by", none), "moved_back_by", "moved_back_by", defArgs s_moved_back_by, defBody s_moved_back_by, defScope s_moved_back_by, [], []⟩
def D_check_row : He.DefD := ⟨("check_row", none), "check_row", "check_row", defArgs s_check_row, defBody s_check_row, defScope s_check_row, [], []⟩
def D_above : He.DefD := ⟨("above", none), "above", "above", defArgs s_above, defBody s_above, defScope s_above, [], []⟩
def D_highest : He.DefD := ⟨("highest", none), "highest", "highest", defArgs s_highest, defBody s_highest, defScope s_highest, [], []⟩
def D_first_highest : He.DefD := ⟨("first_highest", none), "first_highest", "first_highest", defArgs s_first_highest, defBody s_first_highest, defScope s_first_highest, [], []⟩
def D_moved : He.DefD := ⟨("moved", none), "moved", "moved", defArgs s_moved, defBody s_moved, defScope s_moved, [], []⟩
def D_moved_back : He.DefD := ⟨("moved_back", none), "moved_back", "moved_back", defArgs s_moved_back, defBody s_moved_back, defScope s_moved_back, [], []⟩
def D__law_pool : He.DefD := ⟨("_law_pool", none), "_law_pool", "_law_pool", defArgs s__law_pool, defBody s__law_pool, defScope s__law_pool, [], []⟩
def D__law_below : He.DefD := ⟨("_law_below", none), "_law_below", "_law_below", defArgs s__law_below, defBody s__law_below, defScope s__law_below, [], []⟩
def D__law_one : He.DefD := ⟨("_law_one", none), "_law_one", "_law_one", defArgs s__law_one, defBody s__law_one, defScope s__law_one, [], []⟩
def D__law_row : He.DefD := ⟨("_law_row", none), "_law_row", "_law_row", defArgs s__law_row, defBody s__law_row, defScope s__law_row, [], []⟩
def D__law_sums : He.DefD := ⟨("_law_sums", none), "_law_sums", "_law_sums", defArgs s__law_sums, defBody s__law_sums, defScope s__law_sums, [], []⟩
def D__law_moved : He.DefD := ⟨("_law_moved", none), "_law_moved", "_law_moved", defArgs s__law_moved, defBody s__law_moved, defScope s__law_moved, [], []⟩
def D__law_same : He.DefD := ⟨("_law_same", none), "_law_same", "_law_same", defArgs s__law_same, defBody s__law_same, defScope s__law_same, [], []⟩
def D__law_right : He.DefD := ⟨("_law_right", none), "_law_right", "_law_right", defArgs s__law_right, defBody s__law_right, defScope s__law_right, [], []⟩
def D_law : He.DefD := ⟨("law", none), "law", "law", defArgs s_law, defBody s_law, defScope s_law, [], []⟩
def fn : List He.DefD := [D_is_whole, D_is_between, D_is_number, D_wrong_in_row, D_sums_by, D_above_by, D_highest_by, D_places_with, D_first_highest_by, D_moved_by, D_moved_back_by, D_check_row, D_above, D_highest, D_first_highest, D_moved, D_moved_back, D__law_pool, D__law_below, D__law_one, D__law_row, D__law_sums, D__law_moved, D__law_same, D__law_right, D_law]
def fa : List He.Fa := [.glo "is_whole", .glo "is_between", .glo "is_number", .glo "wrong_in_row", .glo "sums_by", .glo "above_by", .glo "highest_by", .glo "places_with", .glo "first_highest_by", .glo "moved_by", .glo "moved_back_by", .glo "check_row", .glo "above", .glo "highest", .glo "first_highest", .glo "moved", .glo "moved_back", .glo "_law_pool", .glo "_law_below", .glo "_law_one", .glo "_law_row", .glo "_law_sums", .glo "_law_moved", .glo "_law_same", .glo "_law_right", .glo "law", .free "abs", .free "all", .free "bool", .free "dict", .free "divmod", .free "enumerate", .free "int", .free "isinstance", .free "len", .free "list", .free "max", .free "min", .free "range", .free "str", .free "sum", .free "tuple", .free "zip", .int "MOST_NUMBERS" (8), .int "MOST_SIZE" (9)]
def fbl : List Fb := []
abbrev R : PySem.W.OpenRow := PySem.W.OpenLaw.row PySem.Challenge.rw_leadsums_k10_whole_moved_rows
abbrev hk : PySem.W.Hook := hookB 4 fa fn fbl
def ob (s : PySem.W.SharedT) : AlB := obsBG 4 fa fn fbl (HandSHeadRun.getT s)
theorem ob_eq (s : PySem.W.SharedT) : ob s = hk.obs s.abs := obsBG_eq (HandSHeadRun.getT_eq s)
abbrev loose : List Str := (["SumError", "InvalidRow", "is_whole", "is_between", "MOST_NUMBERS", "MOST_SIZE", "is_number", "wrong_in_row", "sums_by", "above_by", "highest_by", "places_with", "first_highest_by", "moved_by", "moved_back_by", "check_row", "above", "highest", "first_highest", "moved", "moved_back", "_law_pool", "_law_below", "_law_one", "_law_row", "_law_sums", "_law_moved", "_law_same", "_law_right"] : List Str)
theorem run (w : World) : HandSHeadRun.RunEq R (PySem.W.view R.prog [35]) hk ob 3000 loose w := by
  intro os
  kernel_rfl
noncomputable def mkT {K : PySem.W.Frag} {h : Heap} {mg : Str → Option Value} (X : K.In h) (G : h.Ns mainGlobals mg) (c : SaysB fa fn fbl K) : Fc K mg :=
  have e_is_whole := c.d.def_ 0 (d := D_is_whole) rfl
  have e_is_between := c.d.def_ 1 (d := D_is_between) rfl
  have e_is_number := c.d.def_ 2 (d := D_is_number) rfl
  have e_wrong_in_row := c.d.def_ 3 (d := D_wrong_in_row) rfl
  have e_sums_by := c.d.def_ 4 (d := D_sums_by) rfl
  have e_above_by := c.d.def_ 5 (d := D_above_by) rfl
  have e_highest_by := c.d.def_ 6 (d := D_highest_by) rfl
  have e_places_with := c.d.def_ 7 (d := D_places_with) rfl
  have e_first_highest_by := c.d.def_ 8 (d := D_first_highest_by) rfl
  have e_moved_by := c.d.def_ 9 (d := D_moved_by) rfl
  have e_moved_back_by := c.d.def_ 10 (d := D_moved_back_by) rfl
  have e_check_row := c.d.def_ 11 (d := D_check_row) rfl
  have e_above := c.d.def_ 12 (d := D_above) rfl
  have e_highest := c.d.def_ 13 (d := D_highest) rfl
  have e_first_highest := c.d.def_ 14 (d := D_first_highest) rfl
  have e_moved := c.d.def_ 15 (d := D_moved) rfl
  have e_moved_back := c.d.def_ 16 (d := D_moved_back) rfl
  have e__law_pool := c.d.def_ 17 (d := D__law_pool) rfl
  have e__law_below := c.d.def_ 18 (d := D__law_below) rfl
  have e__law_one := c.d.def_ 19 (d := D__law_one) rfl
  have e__law_row := c.d.def_ 20 (d := D__law_row) rfl
  have e__law_sums := c.d.def_ 21 (d := D__law_sums) rfl
  have e__law_moved := c.d.def_ 22 (d := D__law_moved) rfl
  have e__law_same := c.d.def_ 23 (d := D__law_same) rfl
  have e__law_right := c.d.def_ 24 (d := D__law_right) rfl
  have e_law := c.d.def_ 25 (d := D_law) rfl
  { f_is_whole := _, d_is_whole := (e_is_whole).choose, F_is_whole := (e_is_whole).choose_spec, g_is_whole := He.glo_ok X G (c.d.fact 0 (f := .glo "is_whole") rfl), f_is_between := _, d_is_between := (e_is_between).choose, F_is_between := (e_is_between).choose_spec, g_is_between := He.glo_ok X G (c.d.fact 1 (f := .glo "is_between") rfl), f_is_number := _, d_is_number := (e_is_number).choose, F_is_number := (e_is_number).choose_spec, g_is_number := He.glo_ok X G (c.d.fact 2 (f := .glo "is_number") rfl), f_wrong_in_row := _, d_wrong_in_row := (e_wrong_in_row).choose, F_wrong_in_row := (e_wrong_in_row).choose_spec, g_wrong_in_row := He.glo_ok X G (c.d.fact 3 (f := .glo "wrong_in_row") rfl), f_sums_by := _, d_sums_by := (e_sums_by).choose, F_sums_by := (e_sums_by).choose_spec, g_sums_by := He.glo_ok X G (c.d.fact 4 (f := .glo "sums_by") rfl), f_above_by := _, d_above_by := (e_above_by).choose, F_above_by := (e_above_by).choose_spec, g_above_by := He.glo_ok X G (c.d.fact 5 (f := .glo "above_by") rfl), f_highest_by := _, d_highest_by := (e_highest_by).choose, F_highest_by := (e_highest_by).choose_spec, g_highest_by := He.glo_ok X G (c.d.fact 6 (f := .glo "highest_by") rfl), f_places_with := _, d_places_with := (e_places_with).choose, F_places_with := (e_places_with).choose_spec, g_places_with := He.glo_ok X G (c.d.fact 7 (f := .glo "places_with") rfl), f_first_highest_by := _, d_first_highest_by := (e_first_highest_by).choose, F_first_highest_by := (e_first_highest_by).choose_spec, g_first_highest_by := He.glo_ok X G (c.d.fact 8 (f := .glo "first_highest_by") rfl), f_moved_by := _, d_moved_by := (e_moved_by).choose, F_moved_by := (e_moved_by).choose_spec, g_moved_by := He.glo_ok X G (c.d.fact 9 (f := .glo "moved_by") rfl), f_moved_back_by := _, d_moved_back_by := (e_moved_back_by).choose, F_moved_back_by := (e_moved_back_by).choose_spec, g_moved_back_by := He.glo_ok X G (c.d.fact 10 (f := .glo "moved_back_by") rfl), f_check_row := _, d_check_row := (e_check_row).choose, F_check_row := (e_check_row).choose_spec, g_check_row := He.glo_ok X G (c.d.fact 11 (f := .glo "check_row") rfl), f_above := _, d_above := (e_above).choose, F_above := (e_above).choose_spec, g_above := He.glo_ok X G (c.d.fact 12 (f := .glo "above") rfl), f_highest := _, d_highest := (e_highest).choose, F_highest := (e_highest).choose_spec, g_highest := He.glo_ok X G (c.d.fact 13 (f := .glo "highest") rfl), f_first_highest := _, d_first_highest := (e_first_highest).choose, F_first_highest := (e_first_highest).choose_spec, g_first_highest := He.glo_ok X G (c.d.fact 14 (f := .glo "first_highest") rfl), f_moved := _, d_moved := (e_moved).choose, F_moved := (e_moved).choose_spec, g_moved := He.glo_ok X G (c.d.fact 15 (f := .glo "moved") rfl), f_moved_back := _, d_moved_back := (e_moved_back).choose, F_moved_back := (e_moved_back).choose_spec, g_moved_back := He.glo_ok X G (c.d.fact 16 (f := .glo "moved_back") rfl), f__law_pool := _, d__law_pool := (e__law_pool).choose, F__law_pool := (e__law_pool).choose_spec, g__law_pool := He.glo_ok X G (c.d.fact 17 (f := .glo "_law_pool") rfl), f__law_below := _, d__law_below := (e__law_below).choose, F__law_below := (e__law_below).choose_spec, g__law_below := He.glo_ok X G (c.d.fact 18 (f := .glo "_law_below") rfl), f__law_one := _, d__law_one := (e__law_one).choose, F__law_one := (e__law_one).choose_spec, g__law_one := He.glo_ok X G (c.d.fact 19 (f := .glo "_law_one") rfl), f__law_row := _, d__law_row := (e__law_row).choose, F__law_row := (e__law_row).choose_spec, g__law_row := He.glo_ok X G (c.d.fact 20 (f := .glo "_law_row") rfl), f__law_sums := _, d__law_sums := (e__law_sums).choose, F__law_sums := (e__law_sums).choose_spec, g__law_sums := He.glo_ok X G (c.d.fact 21 (f := .glo "_law_sums") rfl), f__law_moved := _, d__law_moved := (e__law_moved).choose, F__law_moved := (e__law_moved).choose_spec, g__law_moved := He.glo_ok X G (c.d.fact 22 (f := .glo "_law_moved") rfl), f__law_same := _, d__law_same := (e__law_same).choose, F__law_same := (e__law_same).choose_spec, g__law_same := He.glo_ok X G (c.d.fact 23 (f := .glo "_law_same") rfl), f__law_right := _, d__law_right := (e__law_right).choose, F__law_right := (e__law_right).choose_spec, g__law_right := He.glo_ok X G (c.d.fact 24 (f := .glo "_law_right") rfl), f_law := _, d_law := (e_law).choose, F_law := (e_law).choose_spec, g_law := He.glo_ok X G (c.d.fact 25 (f := .glo "law") rfl), m_abs := He.free_ok X G (c.d.fact 26 (f := .free "abs") rfl), m_all := He.free_ok X G (c.d.fact 27 (f := .free "all") rfl), m_bool := He.free_ok X G (c.d.fact 28 (f := .free "bool") rfl), m_dict := He.free_ok X G (c.d.fact 29 (f := .free "dict") rfl), m_divmod := He.free_ok X G (c.d.fact 30 (f := .free "divmod") rfl), m_enumerate := He.free_ok X G (c.d.fact 31 (f := .free "enumerate") rfl), m_int := He.free_ok X G (c.d.fact 32 (f := .free "int") rfl), m_isinstance := He.free_ok X G (c.d.fact 33 (f := .free "isinstance") rfl), m_len := He.free_ok X G (c.d.fact 34 (f := .free "len") rfl), m_list := He.free_ok X G (c.d.fact 35 (f := .free "list") rfl), m_max := He.free_ok X G (c.d.fact 36 (f := .free "max") rfl), m_min := He.free_ok X G (c.d.fact 37 (f := .free "min") rfl), m_range := He.free_ok X G (c.d.fact 38 (f := .free "range") rfl), m_str := He.free_ok X G (c.d.fact 39 (f := .free "str") rfl), m_sum := He.free_ok X G (c.d.fact 40 (f := .free "sum") rfl), m_tuple := He.free_ok X G (c.d.fact 41 (f := .free "tuple") rfl), m_zip := He.free_ok X G (c.d.fact 42 (f := .free "zip") rfl), c_MOST_NUMBERS := He.int_ok X G (c.d.fact 43 (f := .int "MOST_NUMBERS" (8)) rfl), c_MOST_SIZE := He.int_ok X G (c.d.fact 44 (f := .int "MOST_SIZE" (9)) rfl) }
abbrev LVL : Nat := 11
-- law at 35
end Lk10

namespace Lk10
open PySem PySem.Spec PyProof.Rows L2 Dn
theorem p_is_whole (i : Int) (S : Store) : den_is_whole [.d (.int i)] S = .ok (.d (.bl true)) S := by
  simp [den_is_whole, bd_is_whole, isiB]
theorem p_is_between (i a b : Int) (S : Store) : den_is_between [.d (.int i), .d (.int a), .d (.int b)] S = .ok (.d (.bl (decide (a ≤ i ∧ i ≤ b)))) S := by
  simp [den_is_between, bd_is_between, p_is_whole]
  by_cases h : a ≤ i <;> simp [h]
theorem p_is_number (i : Int) (S : Store) : den_is_number [.d (.int i)] S = .ok (.d (.bl (decide (-9 ≤ i ∧ i ≤ 9)))) S := by
  simp [den_is_number, bd_is_number, p_is_between]
theorem p_wrong_in_row {r : List Int} (h : Row r) (S : Store) : den_wrong_in_row [.d (tupI r)] S = .ok (.d (.lst [])) S := by
  have a1 : (1 : Int) ≤ r.length := by have := h.1; omega
  have a2 : (r.length : Int) ≤ 8 := by have := h.2.1; omega
  simp [den_wrong_in_row, bd_wrong_in_row, isiB, nLc, wipeE, a1, a2, enW, M.bind, pairsD_map]
  rw [lc_no _ live_nil _ _ (by simp; omega)]
  · simp
  · rintro ⟨n, i⟩ hx
    have hn := h.2.2 n (by have := List.mem_zipIdx hx; rw [this.2.2]; exact List.getElem_mem _)
    simp [p_is_number, hn]
theorem p_sums_by (r : List Int) (hz : r.length < 1000) (S : Store) : den_sums_by [.d (tupI r)] S = .ok (.d (tupI (psums r))) S := by
  have := for_all (w := ⟨r.map .int, []⟩) (b := bName 2) (body := fb_sums_by_0)
    (ρ := [some (.d (tupI r)), some (.cell S.length), none]) (S := S ++ [.lst [.int 0]])
    (fun i ρ S' => i ≤ r.length ∧ (∃ v, ρ = [some (.d (tupI r)), some (.cell S.length), v]) ∧ S' = S ++ [.lst ((List.range (i + 1)).map fun k => .int (r.take k).sum)])
    (fun _ _ _ _ => live_nil) (by
      rintro i x ρ S' hx ⟨hi, ⟨v, rfl⟩, rfl⟩
      rw [List.getElem?_map] at hx
      obtain ⟨n, e1, e2⟩ := Option.map_eq_some_iff.mp hx
      subst e2
      obtain ⟨hi', e3⟩ := List.getElem?_eq_some_iff.mp e1
      have hl : L2.atI ((List.range (i + 1)).map fun k => D.int (r.take k).sum) (-1) = some (.int (r.take i).sum) := by
        rw [List.range_succ, List.map_append]; exact L2.atI_last _ _
      refine ⟨[some (.d (tupI r)), some (.cell S.length), some (.d (.int n))], [some (.d (tupI r)), some (.cell S.length), some (.d (.int n))], _, by simp, .inl ?_, hi', ⟨_, rfl⟩, rfl⟩
      simp [fb_sums_by_0, hl, show i + 1 < 1000000 by omega]
      rw [List.range_succ (n := i + 1), List.map_append, List.map_singleton, sum_take_succ hi', e3]) ⟨by omega, ⟨none, rfl⟩, by simp⟩
  obtain ⟨ρ2, S2, h1, _, ⟨v, rfl⟩, rfl⟩ := this
  simp [den_sums_by, bd_sums_by]
  simp at h1
  rw [h1]
  simp [psums, Function.comp_def]
/-- how many sums are above 0 -/
def aboveN (r : List Int) : Nat := ((psums r).filter fun x => decide (0 < x)).length
theorem p_above_by {r : List Int} (hz : r.length < 1000) (S : Store) : den_above_by [.d (tupI r)] S = .ok (.d (.int (aboveN r))) S := by
  simp [den_above_by, bd_above_by, p_sums_by r hz, nLc, wipeE, M.bind]
  rw [lc_if _ (fun x => decide (0 < x)) (fun x => .int x) live_nil _ (by simp; omega)]
  · simp [aboveN]
  · intro x _; simp
/-- the greatest sum -/
theorem p_highest_by {r : List Int} (hz : r.length < 1000) : ∃ m, m ∈ psums r ∧ (∀ y ∈ psums r, y ≤ m) ∧ ∀ S : Store, den_highest_by [.d (tupI r)] S = .ok (.d (.int m)) S := by
  obtain ⟨m, h1, h2, h3⟩ := maxI_ok (psums_ne r)
  exact ⟨m, h2, h3, fun S => by simp [den_highest_by, bd_highest_by, p_sums_by r hz, h1]⟩
theorem f_highest_by {r : List Int} (hz : r.length < 1000) (S : Store) : den_highest_by [.d (tupI r)] S = .ok (.d (.int (hiS r))) S := by
  simp [den_highest_by, bd_highest_by, p_sums_by r hz, hiS_eq]
theorem p_places_with {r : List Int} (hz : r.length < 1000) (v : Int) (S : Store) : den_places_with [.d (tupI r), .d (.int v)] S = .ok (.d (lstI (placesI (psums r) v))) S := by
  simp [den_places_with, bd_places_with, nLc, wipeE, enW, M.bind, pairsD_map, p_sums_by r hz]
  rw [lc_if _ (fun q => decide (q.1 = v)) (fun q => .int (q.2 : Nat)) live_nil _ (by simp; omega)]
  · simp [placesI, Function.comp_def]
  · rintro ⟨n, i⟩ hx
    simp
/-- the first place of the greatest sum -/
theorem p_first_highest_by {r : List Int} (hz : r.length < 1000) : ∃ m k, m ∈ psums r ∧ (∀ y ∈ psums r, y ≤ m) ∧ (placesI (psums r) m)[0]? = some k ∧ ∀ S : Store, den_first_highest_by [.d (tupI r)] S = .ok (.d (.int k)) S := by
  obtain ⟨m, h1, h2, h3⟩ := p_highest_by hz
  obtain ⟨i, e⟩ := List.mem_iff_getElem?.mp h1
  have ne : 0 < (placesI (psums r) m).length := List.length_pos_iff.mpr (List.ne_nil_of_mem (placesI_mem.mpr ⟨i, rfl, e⟩))
  refine ⟨m, (placesI (psums r) m)[0], h1, h2, List.getElem?_eq_getElem ne, fun S => ?_⟩
  simp [den_first_highest_by, bd_first_highest_by, h3, p_places_with hz, atI_of, List.getElem?_eq_getElem ne]
theorem f_first_highest_by {r : List Int} (hz : r.length < 1000) (S : Store) : den_first_highest_by [.d (tupI r)] S = .ok (.d (.int (firstP (psums r) (hiS r)))) S := by
  simp [den_first_highest_by, bd_first_highest_by, f_highest_by hz, p_places_with hz, atI_of, firstP_eq (hiS_ok r).1]
/-! ### moved rows -/
def selI (P : Int → Bool) (r : List Int) : List Int := ((List.range r.length).filter fun i => P (r.take (i + 1)).sum).map fun i => r.getD i 0
def upI (r : List Int) : List Int := selI (fun v => decide (0 < v)) r
def dnI (r : List Int) : List Int := selI (fun v => decide (v ≤ 0)) r
def mvI (r : List Int) : List Int := (upI r).reverse ++ dnI r
theorem sel_snoc (P : Int → Bool) (r : List Int) (x : Int) : selI P (r ++ [x]) = selI P r ++ if P (r.sum + x) = true then [x] else [] := by
  unfold selI
  rw [List.length_append, List.length_singleton, List.range_succ, List.filter_append, List.map_append]
  congr 1
  · have e : (List.range r.length).filter (fun i => P ((r ++ [x]).take (i + 1)).sum) = (List.range r.length).filter (fun i => P (r.take (i + 1)).sum) := by
      refine List.filter_congr fun i hi => ?_
      have := List.mem_range.mp hi
      rw [List.take_append_of_le_length (by omega)]
    rw [e]
    refine List.map_congr_left fun i hi => ?_
    have := List.mem_range.mp (List.mem_filter.mp hi).1
    simp [List.getD, List.getElem?_append_left this]
  · have t : ((r ++ [x]).take (r.length + 1)).sum = r.sum + x := by rw [List.take_of_length_le (by simp)]; simp
    by_cases c : P (r.sum + x) = true
    · rw [if_pos c, List.filter_cons_of_pos (by rw [t]; exact c)]
      simp [List.getD]
    · rw [if_neg c, List.filter_cons_of_neg (by rw [t]; exact c)]; rfl
theorem up_snoc (r : List Int) (x : Int) : upI (r ++ [x]) = upI r ++ if 0 < r.sum + x then [x] else [] := by
  unfold upI; rw [sel_snoc]; simp
theorem dn_snoc (r : List Int) (x : Int) : dnI (r ++ [x]) = dnI r ++ if 0 < r.sum + x then [] else [x] := by
  unfold dnI; rw [sel_snoc]
  by_cases c : 0 < r.sum + x
  · rw [if_pos c, if_neg (by simp; omega)]
  · rw [if_neg c, if_pos (by simp; omega)]
theorem mv_up {r : List Int} {x : Int} (h : 0 < r.sum + x) : mvI (r ++ [x]) = x :: mvI r := by
  unfold mvI; rw [up_snoc, dn_snoc, if_pos h, if_pos h]; simp
theorem mv_dn {r : List Int} {x : Int} (h : ¬ 0 < r.sum + x) : mvI (r ++ [x]) = mvI r ++ [x] := by
  unfold mvI; rw [up_snoc, dn_snoc, if_neg h, if_neg h]; simp
theorem snoc_ind {P : List Int → Prop} (h0 : P []) (h1 : ∀ r x, P r → P (r ++ [x])) : ∀ (n : Nat) (r : List Int), r.length = n → P r
  | 0, r, h => by rw [List.eq_nil_of_length_eq_zero h]; exact h0
  | n + 1, r, h => by
    rcases List.eq_nil_or_concat r with z | ⟨t, x, z⟩
    · subst z; exact h0
    · subst z
      rw [List.concat_eq_append] at h ⊢
      exact h1 t x (snoc_ind h0 h1 n t (by simpa using h))
theorem mv_sum (r : List Int) : (mvI r).sum = r.sum := by
  refine snoc_ind (P := fun r => (mvI r).sum = r.sum) rfl (fun r x ih => ?_) _ r rfl
  by_cases c : 0 < r.sum + x
  · rw [mv_up c, List.sum_cons, List.sum_append, ih]; simp; omega
  · rw [mv_dn c, List.sum_append, List.sum_append, ih]
theorem mv_len (r : List Int) : (mvI r).length = r.length := by
  refine snoc_ind (P := fun r => (mvI r).length = r.length) rfl (fun r x ih => ?_) _ r rfl
  by_cases c : 0 < r.sum + x
  · rw [mv_up c]; simp [ih]
  · rw [mv_dn c]; simp [ih]
theorem mv_mem (r : List Int) : ∀ x, x ∈ mvI r ↔ x ∈ r := by
  refine snoc_ind (P := fun r => ∀ x, x ∈ mvI r ↔ x ∈ r) (fun x => Iff.rfl) (fun r y ih x => ?_) _ r rfl
  by_cases c : 0 < r.sum + y
  · rw [mv_up c]; simp [ih, or_comm]
  · rw [mv_dn c]; simp [ih]
theorem up_le (r : List Int) : (upI r).length ≤ r.length := by
  have := mv_len r
  unfold mvI at this
  rw [List.length_append, List.length_reverse] at this
  omega
theorem mv_high (r : List Int) : (∀ k, k ≤ r.length → ((mvI r).take k).sum ≤ (upI r).sum) ∧ ((mvI r).take (upI r).length).sum = (upI r).sum ∧ ∀ k, k < (upI r).length → ((mvI r).take k).sum < (upI r).sum := by
  refine snoc_ind (P := fun r => (∀ k, k ≤ r.length → ((mvI r).take k).sum ≤ (upI r).sum) ∧ ((mvI r).take (upI r).length).sum = (upI r).sum ∧ ∀ k, k < (upI r).length → ((mvI r).take k).sum < (upI r).sum) ⟨fun k hk => ?_, rfl, fun k hk => by simp [upI, selI] at hk⟩ (fun r x ih => ?_) _ r rfl
  · have : k = 0 := by simpa using hk
    subst this; exact Int.le_refl _
  · obtain ⟨i1, i2, i3⟩ := ih
    have full := i1 r.length (Nat.le_refl _)
    rw [List.take_of_length_le (by rw [mv_len]; exact Nat.le_refl _), mv_sum] at full
    have zero := i1 0 (Nat.zero_le _)
    simp only [List.take_zero, List.sum_nil] at zero
    by_cases c : 0 < r.sum + x
    · have eu : upI (r ++ [x]) = upI r ++ [x] := by rw [up_snoc, if_pos c]
      rw [mv_up c, eu]
      have es : (upI r ++ [x]).sum = (upI r).sum + x := by simp
      rw [es]
      refine ⟨fun k hk => ?_, ?_, fun k hk => ?_⟩
      · cases k with
        | zero => simp only [List.take_zero, List.sum_nil]; omega
        | succ k =>
          rw [List.take_succ_cons, List.sum_cons]
          have := i1 k (by simp at hk; omega)
          omega
      · rw [List.length_append, List.length_singleton, List.take_succ_cons, List.sum_cons, i2]; omega
      · rw [List.length_append, List.length_singleton] at hk
        cases k with
        | zero => simp only [List.take_zero, List.sum_nil]; omega
        | succ k =>
          rw [List.take_succ_cons, List.sum_cons]
          have := i3 k (by omega)
          omega
    · have eu : upI (r ++ [x]) = upI r := by rw [up_snoc, if_neg c, List.append_nil]
      have ul := up_le r
      have tk : ∀ k, k ≤ r.length → (mvI r ++ [x]).take k = (mvI r).take k := fun k hk => List.take_append_of_le_length (by rw [mv_len]; exact hk)
      rw [mv_dn c, eu]
      refine ⟨fun k hk => ?_, by rw [tk _ ul]; exact i2, fun k hk => by rw [tk _ (by omega)]; exact i3 k hk⟩
      rw [List.length_append, List.length_singleton] at hk
      by_cases e : k = r.length + 1
      · subst e
        rw [List.take_of_length_le (by rw [List.length_append, mv_len]; simp), List.sum_append, mv_sum]
        simp only [List.sum_cons, List.sum_nil]
        omega
      · rw [tk _ (by omega)]; exact i1 k (by omega)
theorem mv_hi (r : List Int) : hiS (mvI r) = (upI r).sum := by
  obtain ⟨h1, h2, _⟩ := mv_high r
  refine hiS_uniq (psums_mem.mpr ⟨_, by rw [mv_len]; exact up_le r, h2.symm⟩) fun y hy => ?_
  obtain ⟨k, hk, rfl⟩ := psums_mem.mp hy
  exact h1 k (by rw [mv_len] at hk; exact hk)
theorem mv_first (r : List Int) : firstP (psums (mvI r)) (hiS (mvI r)) = (upI r).length := by
  obtain ⟨h1, h2, h3⟩ := mv_high r
  have ul := up_le r
  refine firstP_uniq (by rw [psums_get (by rw [mv_len]; exact ul), h2, mv_hi]) fun j hj => ?_
  have jl := (List.getElem?_eq_some_iff.mp hj).1
  rw [psums_length, mv_len] at jl
  rw [psums_get (by rw [mv_len]; omega), mv_hi] at hj
  by_cases c : (upI r).length ≤ j
  · exact c
  · have := h3 j (by omega)
    have := Option.some.inj hj
    omega
theorem mv_surj : ∀ (n : Nat) (t : List Int), t.length = n → ∃ r, mvI r = t
  | 0, t, h => ⟨[], by rw [List.eq_nil_of_length_eq_zero h]; rfl⟩
  | n + 1, t, h => by
    by_cases c : 0 < t.sum
    · cases t with
      | nil => cases h
      | cons x t =>
        obtain ⟨r, e⟩ := mv_surj n t (by simpa using h)
        have s := mv_sum r
        rw [e] at s
        rw [List.sum_cons] at c
        exact ⟨r ++ [x], by rw [mv_up (by omega), e]⟩
    · rcases List.eq_nil_or_concat t with z | ⟨t', x, z⟩
      · subst z; cases h
      · rw [List.concat_eq_append] at z
        subst z
        obtain ⟨r, e⟩ := mv_surj n t' (by simpa using h)
        have s := mv_sum r
        rw [e] at s
        rw [List.sum_append] at c
        simp only [List.sum_cons, List.sum_nil] at c
        exact ⟨r ++ [x], by rw [mv_dn (by omega), e]⟩
theorem above_up (r : List Int) : ((psums r).filter fun x => decide (0 < x)).length = (upI r).length := by
  unfold psums upI selI
  rw [List.range_succ_eq_map, List.map_cons, List.filter_cons_of_neg (by simp), List.map_map, List.filter_map, List.length_map, List.length_map]
  rfl
theorem pairs_mv (r : List Int) : zipD (r.map D.int) (Dn.cutD ((psums r).map D.int) (some 1) none) = (List.range r.length).map fun i => D.tup [.int (r.getD i 0), .int (r.take (i + 1)).sum] := by
  rw [cut_from (by omega)]
  apply List.ext_getElem?
  intro i
  unfold zipD
  rw [List.getElem?_zipWith, List.getElem?_map, List.getElem?_map, List.getElem?_drop, List.getElem?_map]
  by_cases h : i < r.length
  · rw [List.getElem?_eq_getElem h, List.getElem?_range h, show (1 : Int).toNat + i = i + 1 by simp; omega, psums_get (by omega)]
    simp [List.getD, List.getElem?_eq_getElem h]
  · rw [List.getElem?_eq_none (by omega), List.getElem?_eq_none (l := List.range r.length) (by simp; omega)]; rfl
theorem sel_map (P : Int → Bool) (r : List Int) : ((List.range r.length).filter fun i => P (r.take (i + 1)).sum).map (fun i => D.int (r.getD i 0)) = (selI P r).map D.int := by
  unfold selI; rw [List.map_map]; rfl
theorem sel_len (P : Int → Bool) (r : List Int) : (selI P r).length ≤ r.length := by
  unfold selI
  rw [List.length_map]
  have := List.length_filter_le (fun i => P (r.take (i + 1)).sum) (List.range r.length)
  rw [List.length_range] at this
  exact this
theorem p_moved_by {r : List Int} (hz : r.length ≤ 1000) (h1 : r.length < 1000) (S : Store) : den_moved_by [.d (tupI r)] S = .ok (.d (tupI (mvI r))) S := by
  have q1 := p_sums_by r h1 S
  have pz := pairs_mv r
  have key := fun v2 : Option Val => lc_if (w := ⟨(List.range r.length).map fun i => D.tup [.int (r.getD i 0), .int (r.take (i + 1)).sum], []⟩) (b := bTup 2 (bCons (bName 3) (bCons (bName 4) bNil))) (c := dTest (dOp2 gtD (dVar 4) (dC (.int 0)))) (el := dVar 3) (ρ := [some (.d (tupI r)), some (.d (.lst ((List.range r.length).map fun i => D.tup [.int (r.getD i 0), .int (r.take (i + 1)).sum]))), v2, none, none]) (S := S) (fun i => D.tup [.int (r.getD i 0), .int (r.take (i + 1)).sum]) (fun i => decide (0 < (r.take (i + 1)).sum)) (fun i => .int (r.getD i 0)) live_nil (List.range r.length) (by rw [List.length_range]; omega) (by
    intro i hi
    refine ⟨[some (.d (tupI r)), some (.d (.lst ((List.range r.length).map fun i => D.tup [.int (r.getD i 0), .int (r.take (i + 1)).sum]))), v2, some (.d (.int (r.getD i 0))), some (.d (.int (r.take (i + 1)).sum))], by simp, ?_, ?_⟩
    · generalize (r.take (i + 1)).sum = x
      simp
    · simp)
  have key2 := fun v2 : Option Val => lc_if (w := ⟨(List.range r.length).map fun i => D.tup [.int (r.getD i 0), .int (r.take (i + 1)).sum], []⟩) (b := bTup 2 (bCons (bName 3) (bCons (bName 4) bNil))) (c := dTest (dOp2 leD (dVar 4) (dC (.int 0)))) (el := dVar 3) (ρ := [some (.d (tupI r)), some (.d (.lst ((List.range r.length).map fun i => D.tup [.int (r.getD i 0), .int (r.take (i + 1)).sum]))), v2, none, none]) (S := S) (fun i => D.tup [.int (r.getD i 0), .int (r.take (i + 1)).sum]) (fun i => decide ((r.take (i + 1)).sum ≤ 0)) (fun i => .int (r.getD i 0)) live_nil (List.range r.length) (by rw [List.length_range]; omega) (by
    intro i hi
    refine ⟨[some (.d (tupI r)), some (.d (.lst ((List.range r.length).map fun i => D.tup [.int (r.getD i 0), .int (r.take (i + 1)).sum]))), v2, some (.d (.int (r.getD i 0))), some (.d (.int (r.take (i + 1)).sum))], by simp, ?_, ?_⟩
    · generalize (r.take (i + 1)).sum = x
      simp
    · simp)
  have s1 := sel_map (fun v => decide (0 < v)) r
  have s2 := sel_map (fun v => decide (v ≤ 0)) r
  simp only [s1, s2] at key key2
  have l1 := sel_len (fun v => decide (0 < v)) r
  have l2 := sel_len (fun v => decide (v ≤ 0)) r
  have l3 : ((selI (fun v => decide (0 < v)) r).map D.int).reverse.length + ((selI (fun v => decide (v ≤ 0)) r).map D.int).length ≤ 1000000 := by simp; omega
  have et : tupI (mvI r) = .tup (((selI (fun v => decide (0 < v)) r).map D.int).reverse ++ (selI (fun v => decide (v ≤ 0)) r).map D.int) := by simp [tupI, mvI, upI, dnI, List.map_reverse]
  rw [et]
  simp only [tupI] at *
  generalize (selI (fun v => decide (0 < v)) r).map D.int = U at *
  generalize (selI (fun v => decide (v ≤ 0)) r).map D.int = V at *
  generalize ((List.range r.length).map fun i => D.tup [.int (r.getD i 0), .int (r.take (i + 1)).sum]) = PP at *
  generalize (psums r).map D.int = PS at *
  generalize r.map D.int = T1 at *
  have l4 : U.length + V.length ≤ 1000000 := by simpa using l3
  simp [den_moved_by, bd_moved_by, q1, nLZ, arg2, lzW, pz, nLc, wipeE, M.bind, key, key2, l4]
noncomputable abbrev mbC : Env' → M Bool := dOrT (dTest (dOp2 neD (dVar 2) (dLst dNil))) (dTest (dOp2 neD (dVar 3) (dLst dNil)))
noncomputable abbrev mbB : SD := sSeq (sSet 5 (dIf (dTest (dOp2 gtD (dOp2 addD (dCallB sumD (dCons (dVar 2) dNil)) (dCallB sumD (dCons (dVar 3) dNil))) (dC (.int 0)))) (dVar 2) (dVar 3))) (sExpr (dApp (dVar 4) (dPop (dVar 5))))
theorem ne_nil {ns : List Int} : neD (.lst (ns.map .int)) (.lst []) = some (.bl (!decide (ns = []))) := neD_ll (ms := [])
theorem ud_sum (r : List Int) : (upI r).sum + (dnI r).sum = r.sum := by
  have := mv_sum r
  unfold mvI at this
  rw [List.sum_append, List.sum_reverse] at this
  exact this
theorem st0 {S : Store} {a b c : Cell} : (S ++ [a, b, c])[S.length]? = some a := by simp
theorem st1 {S : Store} {a b c : Cell} : (S ++ [a, b, c])[S.length + 1]? = some b := by simp
theorem st2 {S : Store} {a b c : Cell} : (S ++ [a, b, c])[S.length + 2]? = some c := by simp
theorem se0 {S : Store} {a b c x : Cell} : (S ++ [a, b, c]).set S.length x = S ++ [x, b, c] := by simp
theorem se1 {S : Store} {a b c x : Cell} : (S ++ [a, b, c]).set (S.length + 1) x = S ++ [a, x, c] := by simp
theorem se2 {S : Store} {a b c x : Cell} : (S ++ [a, b, c]).set (S.length + 2) x = S ++ [a, b, x] := by simp
theorem pop_app {fo : Env' → M Val} {ρ : Env'} {S : Store} : dPop fo ρ S = (fo ρ S).bind fun v => M.bind (lstC v) fun n => popC n := rfl
theorem pop0 {S : Store} {U : List D} {x : D} {b c : Cell} : popC S.length (S ++ [.lst (U ++ [x]), b, c]) = .ok (.d x) (S ++ [.lst U, b, c]) := by
  unfold popC; rw [st0]; simp
theorem pop1 {S : Store} {U : List D} {x : D} {a c : Cell} : popC (S.length + 1) (S ++ [a, .lst (U ++ [x]), c]) = .ok (.d x) (S ++ [a, .lst U, c]) := by
  unfold popC; rw [st1]; simp
theorem app2 {S : Store} {F : List D} {x : D} {a b : Cell} (h : F.length < 1000000) : appC (S.length + 2) (.d x) (S ++ [a, b, .lst F]) = .ok (.d .non) (S ++ [a, b, .lst (F ++ [x])]) := by
  unfold appC; rw [st2]; simp [h]
theorem p_back {r : List Int} (hr : r.length ≤ 8) (S : Store) {t pl : Option Val} : ∀ (k fu : Nat), k ≤ r.length → k < fu → ∀ v5, ∃ w5,
    whileN mbC mbB fu [t, pl, some (.cell S.length), some (.cell (S.length + 1)), some (.cell (S.length + 2)), v5] (S ++ [.lst ((upI (r.take k)).map .int), .lst ((dnI (r.take k)).map .int), .lst ((r.drop k).reverse.map .int)]) = .next [t, pl, some (.cell S.length), some (.cell (S.length + 1)), some (.cell (S.length + 2)), w5] (S ++ [.lst [], .lst [], .lst (r.reverse.map .int)]) := by
  intro k
  induction k with
  | zero =>
    intro fu hk hf v5
    obtain ⟨fu, rfl⟩ : ∃ j, fu = j + 1 := ⟨fu - 1, by omega⟩
    refine ⟨v5, ?_⟩
    have e1 : upI (r.take 0) = [] := rfl
    have e2 : dnI (r.take 0) = [] := rfl
    have n0 := ne_nil (ns := [])
    rw [whileN_succ, e1, e2, List.drop_zero]
    simp only [List.map_nil] at n0 ⊢
    generalize r.reverse.map D.int = RR
    simp [mbC, n0]
  | succ k ih =>
    intro fu hk hf v5
    obtain ⟨fu, rfl⟩ : ∃ j, fu = j + 1 := ⟨fu - 1, by omega⟩
    have tk : r.take (k + 1) = r.take k ++ [r[k]] := List.take_succ_eq_append_getElem (by omega)
    have dk : (r.drop k).reverse = (r.drop (k + 1)).reverse ++ [r[k]] := by rw [List.drop_eq_getElem_cons (show k < r.length by omega), List.reverse_cons]
    have us := up_snoc (r.take k) r[k]
    have ds := dn_snoc (r.take k) r[k]
    have sm := ud_sum (r.take k ++ [r[k]])
    rw [List.sum_append] at sm
    simp only [List.sum_cons, List.sum_nil, Int.add_zero] at sm
    have lf : ((r.drop (k + 1)).reverse.map D.int).length < 1000000 := by simp; omega
    rw [whileN_succ, tk]
    by_cases c : 0 < (r.take k).sum + r[k]
    · obtain ⟨w5, q⟩ := ih fu (by omega) (by omega) (some (.cell S.length))
      refine ⟨w5, ?_⟩
      rw [if_pos c] at us ds
      rw [List.append_nil] at ds
      rw [us, ds] at sm ⊢
      rw [dk] at q
      have n1 := ne_nil (ns := upI (r.take k) ++ [r[k]])
      have su := sum_lst (ns := upI (r.take k) ++ [r[k]])
      have sd := sum_lst (ns := dnI (r.take k))
      have gt : decide ((upI (r.take k) ++ [r[k]]).sum + (dnI (r.take k)).sum > 0) = true := decide_eq_true (by omega)
      have gt : 0 < (upI (r.take k) ++ [r[k]]).sum + (dnI (r.take k)).sum := by omega
      rw [show decide (upI (r.take k) ++ [r[k]] = []) = false by simp] at n1
      generalize (upI (r.take k) ++ [r[k]]).sum = x1 at *
      generalize (dnI (r.take k)).sum = x2 at *
      rw [List.map_append] at n1 su q ⊢
      simp only [List.map_cons, List.map_nil] at n1 su q ⊢
      generalize (upI (r.take k)).map D.int = U at *
      generalize (dnI (r.take k)).map D.int = V at *
      generalize (r.drop (k + 1)).reverse.map D.int = F at *
      generalize r.reverse.map D.int = RR at *
      generalize r[k] = x at *
      simp [mbC, st0, n1]
      simp [mbB, st0, st1, st2, su, sd, gt, pop_app, pop0, pop1, app2, lf]
      exact q
    · obtain ⟨w5, q⟩ := ih fu (by omega) (by omega) (some (.cell (S.length + 1)))
      refine ⟨w5, ?_⟩
      rw [if_neg c] at us ds
      rw [List.append_nil] at us
      rw [us, ds] at sm ⊢
      rw [dk] at q
      have n0 := ne_nil (ns := upI (r.take k))
      have n1 := ne_nil (ns := dnI (r.take k) ++ [r[k]])
      have su := sum_lst (ns := upI (r.take k))
      have sd := sum_lst (ns := dnI (r.take k) ++ [r[k]])
      have gt : ¬ 0 < (upI (r.take k)).sum + (dnI (r.take k) ++ [r[k]]).sum := by omega
      rw [show decide (dnI (r.take k) ++ [r[k]] = []) = false by simp] at n1
      generalize (dnI (r.take k) ++ [r[k]]).sum = x1 at *
      generalize (upI (r.take k)).sum = x2 at *
      rw [List.map_append] at n1 sd q ⊢
      simp only [List.map_cons, List.map_nil] at n1 sd q ⊢
      generalize (dnI (r.take k)).map D.int = V at *
      generalize hb : decide (upI (r.take k) = []) = bb at *
      generalize (upI (r.take k)).map D.int = U at *
      generalize (r.drop (k + 1)).reverse.map D.int = F at *
      generalize r.reverse.map D.int = RR at *
      generalize r[k] = x at *
      cases bb with
      | true =>
        simp [mbC, st0, st1, n0, n1]
        simp [mbB, st0, st1, st2, su, sd, gt, pop_app, pop0, pop1, app2, lf]
        exact q
      | false =>
        simp [mbC, st0, st1, n0, n1]
        simp [mbB, st0, st1, st2, su, sd, gt, pop_app, pop0, pop1, app2, lf]
        exact q
theorem p_moved_back_by {r : List Int} (hr : r.length ≤ 8) (S : Store) : den_moved_back_by [.d (tupI (mvI r))] S = .ok (.d (tupI r)) S := by
  have q1 := f_first_highest_by (r := mvI r) (by rw [mv_len]; omega) S
  rw [mv_first] at q1
  have ul := up_le r
  have c1 : Dn.cutD ((mvI r).map D.int) none (some ((upI r).length : Int)) = ((upI r).reverse).map D.int := by
    rw [cut_to (by omega), ← List.map_take, Int.toNat_natCast]
    unfold mvI
    rw [List.take_left' (by simp)]
  have c2 : Dn.cutD ((mvI r).map D.int) (some ((upI r).length : Int)) none = (dnI r).map D.int := by
    rw [cut_from (by omega), ← List.map_drop, Int.toNat_natCast]
    unfold mvI
    rw [List.drop_left' (by simp)]
  have l1 := up_le r
  have l2 := sel_len (fun v => decide (v ≤ 0)) r
  have l2 : (dnI r).length ≤ r.length := l2
  obtain ⟨w5, q⟩ := p_back (t := some (.d (tupI (mvI r)))) (pl := some (.d (.int (upI r).length))) hr S r.length 100000 (Nat.le_refl _) (by omega) none
  rw [List.take_length, List.drop_length] at q
  have lu : ((upI r).map D.int).length ≤ 1000000 := by rw [List.length_map]; omega
  have ld : ((dnI r).map D.int).length ≤ 1000000 := by rw [List.length_map]; omega
  have lr : (r.reverse.map D.int).length ≤ 1000000 := by rw [List.length_map, List.length_reverse]; omega
  have sm : -1000000000000 ≤ ((upI r).length : Int) ∧ ((upI r).length : Int) ≤ 1000000000000 := by omega
  have er : r.map D.int = (r.reverse.map D.int).reverse := by rw [← List.map_reverse, List.reverse_reverse]
  have rv : ((upI r).reverse.map D.int).reverse = (upI r).map D.int := by rw [← List.map_reverse, List.reverse_reverse]
  have lv : ((upI r).reverse.map D.int).length ≤ 1000000 := by rw [List.length_map, List.length_reverse]; omega
  simp only [tupI] at *
  rw [er]
  generalize (mvI r).map D.int = T1 at *
  generalize ((upI r).length : Int) = p at *
  generalize (upI r).reverse.map D.int = UR at *
  generalize (upI r).map D.int = U at *
  generalize (dnI r).map D.int = V at *
  generalize r.reverse.map D.int = RR at *
  simp at q
  simp [den_moved_back_by, bd_moved_back_by, q1, nRevL, rvA, isSq, c1, c2, rv, lu, ld, lr, lv, sm, q]
theorem p_check_row {r : List Int} (h : Row r) (S : Store) : den_check_row [.d (tupI r)] S = .ok (.d .non) S := by
  simp [den_check_row, bd_check_row, p_wrong_in_row h, for_nil]
theorem p_above {r : List Int} (h : Row r) (S : Store) : den_above [.d (tupI r)] S = .ok (.d (.int (aboveN r))) S := by
  simp [den_above, bd_above, p_check_row h, p_above_by (show r.length < 1000 by have := h.2.1; omega)]
theorem f_highest {r : List Int} (h : Row r) (S : Store) : den_highest [.d (tupI r)] S = .ok (.d (.int (hiS r))) S := by
  simp [den_highest, bd_highest, p_check_row h, f_highest_by (show r.length < 1000 by have := h.2.1; omega)]
theorem p_first_highest {r : List Int} (h : Row r) : ∃ m k, m ∈ psums r ∧ (∀ y ∈ psums r, y ≤ m) ∧ (placesI (psums r) m)[0]? = some k ∧ ∀ S : Store, den_first_highest [.d (tupI r)] S = .ok (.d (.int k)) S := by
  obtain ⟨m, k, h1, h2, h3, h4⟩ := p_first_highest_by (show r.length < 1000 by have := h.2.1; omega)
  exact ⟨m, k, h1, h2, h3, fun S => by simp [den_first_highest, bd_first_highest, p_check_row h, h4]⟩
theorem f_first_highest {r : List Int} (h : Row r) (S : Store) : den_first_highest [.d (tupI r)] S = .ok (.d (.int (firstP (psums r) (hiS r)))) S := by
  simp [den_first_highest, bd_first_highest, p_check_row h, f_first_highest_by (show r.length < 1000 by have := h.2.1; omega)]
theorem p_moved {r : List Int} (h : Row r) (S : Store) : den_moved [.d (tupI r)] S = .ok (.d (tupI (mvI r))) S := by
  have := h.2.1
  simp [den_moved, bd_moved, p_check_row h, p_moved_by (show r.length ≤ 1000 by omega) (show r.length < 1000 by omega)]
theorem p_moved_back {r : List Int} (h : Row (mvI r)) (S : Store) : den_moved_back [.d (tupI (mvI r))] S = .ok (.d (tupI r)) S := by
  have := h.2.1
  rw [mv_len] at this
  simp [den_moved_back, bd_moved_back, p_check_row h, p_moved_back_by this]
theorem p_pool {ns : List Int} {lap : Nat} (hl : ns.length ≤ 63) (hp : lap ≤ 1000) (S : Store) : ∃ a b c : Int, den__law_pool [.d (.scr ns), .d (.int lap)] S = .ok (.cell S.length) (S ++ [.lst [.int a, .int b, .int c]]) := by
  have loop : ∀ (cell x : Int), ∃ (y : Int) (v : Option Val), forN ⟨(ns.take 12).map .int, []⟩ (bName 4) fb__law_pool_0 ((ns.take 12).map .int) [some (.d (.scr ns)), some (.d (.int lap)), some (.d (.int cell)), some (.d (.int x)), none] S =
      .next [some (.d (.scr ns)), some (.d (.int lap)), some (.d (.int cell)), some (.d (.int y)), v] S := by
    intro cell x
    have := for_all (w := ⟨(ns.take 12).map .int, []⟩) (b := bName 4) (body := fb__law_pool_0) (ρ := [some (.d (.scr ns)), some (.d (.int lap)), some (.d (.int cell)), some (.d (.int x)), none]) (S := S)
      (fun i ρ S' => (∃ (y : Int) (v : Option Val), ρ = [some (.d (.scr ns)), some (.d (.int lap)), some (.d (.int cell)), some (.d (.int y)), v]) ∧ S' = S)
      (fun _ _ _ _ => live_nil) (by
        rintro i d ρ S' hx ⟨⟨y, v, rfl⟩, rfl⟩
        rw [List.getElem?_map] at hx
        obtain ⟨m, e1, e2⟩ := Option.map_eq_some_iff.mp hx
        subst e2
        have st : ∃ z : Int, fb__law_pool_0 [some (.d (.scr ns)), some (.d (.int lap)), some (.d (.int cell)), some (.d (.int y)), some (.d (.int m))] S' = .next [some (.d (.scr ns)), some (.d (.int lap)), some (.d (.int cell)), some (.d (.int z)), some (.d (.int m))] S' := by
          apply Exists.intro
          simp [fb__law_pool_0]
          rfl
        obtain ⟨z, hz⟩ := st
        exact ⟨[some (.d (.scr ns)), some (.d (.int lap)), some (.d (.int cell)), some (.d (.int y)), some (.d (.int m))], _, S', by simp, .inl hz, ⟨_, _, rfl⟩, rfl⟩) ⟨⟨x, none, rfl⟩, rfl⟩
    obtain ⟨ρ2, S2, h1, ⟨y, v, rfl⟩, rfl⟩ := this
    exact ⟨y, v, h1⟩
  obtain ⟨Y, V, loopE⟩ : ∃ (Y : Int → Int → Int) (V : Int → Int → Option Val), ∀ cell x, forN ⟨(ns.take 12).map .int, []⟩ (bName 4) fb__law_pool_0 ((ns.take 12).map .int) [some (.d (.scr ns)), some (.d (.int lap)), some (.d (.int cell)), some (.d (.int x)), none] S =
      .next [some (.d (.scr ns)), some (.d (.int lap)), some (.d (.int cell)), some (.d (.int (Y cell x))), V cell x] S := ⟨fun c x => (loop c x).choose, fun c x => (loop c x).choose_spec.choose, fun c x => (loop c x).choose_spec.choose_spec⟩
  clear loop
  simp at loopE
  by_cases h : lap < ns.length
  · have e : L2.atI ns (lap : Int) = some ns[lap] := by rw [atI_of (by omega)]; simp [h]
    apply Exists.intro
    apply Exists.intro
    apply Exists.intro
    simp [den__law_pool, bd__law_pool, h, e, cut_to, loopE, ite_ok_int, ite_ok_bool]
    exact ⟨rfl, rfl, rfl⟩
  · apply Exists.intro
    apply Exists.intro
    apply Exists.intro
    simp [den__law_pool, bd__law_pool, h, cut_to, loopE, ite_ok_int, ite_ok_bool]
    exact ⟨rfl, rfl, rfl⟩
/-- a number below many is drawn -/
theorem p_below {n : Nat} {S : Store} {many : Int} (h : Pool n S) (h1 : 0 < many) (h2 : many < 1073741824) : ∃ r S', 0 ≤ r ∧ r < many ∧ Dr n S S' ∧ den__law_below [.cell n, .d (.int many)] S = .ok (.d (.int r)) S' := by
  have gs : ∀ x, (S.set n x)[n]? = some x := fun x => List.getElem?_set_self h.lt
  obtain ⟨a, b, c, e⟩ := h
  by_cases ha : 0 < a
  · refine ⟨a % many, S.set n (.lst [.int (a / many), .int b, .int c]), Int.emod_nonneg _ (by omega), Int.emod_lt_of_pos _ h1, ⟨_, _, _, rfl⟩, ?_⟩
    simp [den__law_below, bd__law_below, e, ha, h1, h2, exit_len]
  · have : ∃ x y z, den__law_below [.cell n, .d (.int many)] S = .ok (.d (.int (x % many))) (S.set n (.lst [.int a, .int y, .int z])) := by
      apply Exists.intro
      apply Exists.intro
      apply Exists.intro
      simp only [den__law_below, bd__law_below, sSeq_app, sIf_app]
      simp [e, ha, h1, gs, exit_len]
      exact ⟨rfl, rfl⟩
    obtain ⟨x, y, z, q⟩ := this
    exact ⟨_, _, Int.emod_nonneg _ (by omega), Int.emod_lt_of_pos _ h1, ⟨_, _, _, rfl⟩, q⟩
theorem p_one {n : Nat} {S : Store} {xs : List D} (h : Pool n S) (h1 : xs ≠ []) (h2 : xs.length < 1000000) : ∃ x S', x ∈ xs ∧ Dr n S S' ∧ den__law_one [.cell n, .d (.tup xs)] S = .ok (.d x) S' := by
  have h0 : 0 < xs.length := List.length_pos_iff.mpr h1
  obtain ⟨r, S', a, b, d, e⟩ := p_below (many := xs.length) h (by omega) (by omega)
  have hr : r.toNat < xs.length := by omega
  refine ⟨xs[r.toNat], S', List.getElem_mem _, d, ?_⟩
  simp [den__law_one, bd__law_one, e, atI_of a, List.getElem?_eq_getElem hr, d.exit]
theorem p_one_l {n : Nat} {S : Store} {xs : List D} (h : Pool n S) (h1 : xs ≠ []) (h2 : xs.length < 1000000) : ∃ x S', x ∈ xs ∧ Dr n S S' ∧ den__law_one [.cell n, .d (.lst xs)] S = .ok (.d x) S' := by
  have h0 : 0 < xs.length := List.length_pos_iff.mpr h1
  obtain ⟨r, S', a, b, d, e⟩ := p_below (many := xs.length) h (by omega) (by omega)
  have hr : r.toNat < xs.length := by omega
  refine ⟨xs[r.toNat], S', List.getElem_mem _, d, ?_⟩
  simp [den__law_one, bd__law_one, e, atI_of a, List.getElem?_eq_getElem hr, d.exit]
/-- a drawn row -/
theorem p_row {n : Nat} {S : Store} {most : Int} (h : Pool n S) (h1 : 1 ≤ most) (h2 : most ≤ 1000) : ∃ r S', 1 ≤ r.length ∧ (r.length : Int) ≤ most ∧ (∀ x ∈ r, -9 ≤ x ∧ x ≤ 9) ∧ Dr n S S' ∧ den__law_row [.cell n, .d (.int most)] S = .ok (.d (tupI r)) S' := by
  obtain ⟨x, S1, hx, d1, e1⟩ := p_one (xs := [.int 1, .int 2, .int 9]) h (by simp) (by simp)
  obtain ⟨high, rfl, a1, a2⟩ : ∃ high : Int, x = .int high ∧ 1 ≤ high ∧ high ≤ 9 := by
    simp at hx
    rcases hx with rfl | rfl | rfl
    · exact ⟨_, rfl, by omega, by omega⟩
    · exact ⟨_, rfl, by omega, by omega⟩
    · exact ⟨_, rfl, by omega, by omega⟩
  obtain ⟨m, S2, b1, b2, d2, e2⟩ := p_below (many := most) (h.dr d1) (by omega) (by omega)
  have d12 := d1.trans d2
  obtain ⟨ys, S3, e3, ⟨d3, p3⟩, al⟩ := lc_run (w := ⟨rngD 0 (1 + m).toNat, []⟩) (b := bName 3) (c := cYes) (el := dOp2 subD (dCall den__law_below (dCons (dVar 0) (dCons (dOp2 addD (dOp2 mulD (dC (.int 2)) (dVar 2)) (dC (.int 1))) dNil))) (dVar 2))
    (ρ := [some (.cell n), some (.d (.int most)), some (.d (.int high)), none]) (fun S' => Dr n S S' ∧ Pool n S') (fun _ y => ∃ v : Int, y = .int v ∧ (-9 ≤ v ∧ v ≤ 9)) (fun _ _ => live_nil)
    (by
      rintro x S' _ ⟨d', p'⟩
      obtain ⟨r, S4, c1, c2, d4, e4⟩ := p_below (many := 2 * high + 1) p' (by omega) (by omega)
      refine ⟨[some (.cell n), some (.d (.int most)), some (.d (.int high)), some (.d x)], S4, .int (r - high), by simp, rfl, ?_, ⟨d'.trans d4, p'.dr d4⟩, _, rfl, by omega, by omega⟩
      simp [e4]) (rngD 0 (1 + m).toNat) [] S2 (fun _ h => h) (by simp; omega) ⟨d12, h.dr d12⟩
  obtain ⟨vs, rfl, l1, l2⟩ := al.ints
  rw [rngD_length] at l1
  refine ⟨vs, S3, by omega, by omega, l2, d3, ?_⟩
  simp [den__law_row, bd__law_row, e1, e2, nLc, wipeE, M.bind, show -1000000000000 ≤ 1 + m ∧ 1 + m ≤ 1000000000000 by omega]
  simp at e3
  rw [e3]
  simp [d3.exit]
theorem p_sums (r : List Int) (hz : r.length < 1000) (S : Store) : den__law_sums [.d (tupI r)] S = .ok (.d (lstI (psums r))) S := by
  have := for_all (w := ⟨r.map .int, []⟩) (b := bName 2) (body := fb__law_sums_0)
    (ρ := [some (.d (tupI r)), some (.cell S.length), none]) (S := S ++ [.lst [.int 0]])
    (fun i ρ S' => i ≤ r.length ∧ (∃ v, ρ = [some (.d (tupI r)), some (.cell S.length), v]) ∧ S' = S ++ [.lst ((List.range (i + 1)).map fun k => .int (r.take k).sum)])
    (fun _ _ _ _ => live_nil) (by
      rintro i x ρ S' hx ⟨hi, ⟨v, rfl⟩, rfl⟩
      rw [List.getElem?_map] at hx
      obtain ⟨n, e1, e2⟩ := Option.map_eq_some_iff.mp hx
      subst e2
      obtain ⟨hi', e3⟩ := List.getElem?_eq_some_iff.mp e1
      have hl : L2.atI ((List.range (i + 1)).map fun k => D.int (r.take k).sum) (-1) = some (.int (r.take i).sum) := by
        rw [List.range_succ, List.map_append]; exact L2.atI_last _ _
      refine ⟨[some (.d (tupI r)), some (.cell S.length), some (.d (.int n))], [some (.d (tupI r)), some (.cell S.length), some (.d (.int n))], _, by simp, .inl ?_, hi', ⟨_, rfl⟩, rfl⟩
      simp [fb__law_sums_0, hl, show i + 1 < 1000000 by omega]
      rw [List.range_succ (n := i + 1), List.map_append, List.map_singleton, sum_take_succ hi', e3]) ⟨by omega, ⟨none, rfl⟩, by simp⟩
  obtain ⟨ρ2, S2, h1, _, ⟨v, rfl⟩, rfl⟩ := this
  simp [den__law_sums, bd__law_sums]
  simp at h1
  rw [h1]
  simp [psums, Function.comp_def]
theorem zmW_tl {xs ys : List D} {S : Store} : zmW (.d (.tup xs)) (.d (.lst ys)) S = .ok ⟨zipD xs ys, []⟩ S := rfl
theorem p_law_moved {r : List Int} (h1 : r.length < 1000) (S : Store) : den__law_moved [.d (tupI r)] S = .ok (.d (tupI (mvI r))) S := by
  have q1 := p_sums r h1 S
  have pz := pairs_mv r
  have key := fun v2 : Option Val => lc_if (w := ⟨(List.range r.length).map fun i => D.tup [.int (r.getD i 0), .int (r.take (i + 1)).sum], []⟩) (b := bTup 2 (bCons (bName 3) (bCons (bName 4) bNil))) (c := dTest (dOp2 gtD (dVar 4) (dC (.int 0)))) (el := dVar 3) (ρ := [some (.d (tupI r)), some (.d (lstI (psums r))), v2, none, none]) (S := S) (fun i => D.tup [.int (r.getD i 0), .int (r.take (i + 1)).sum]) (fun i => decide (0 < (r.take (i + 1)).sum)) (fun i => .int (r.getD i 0)) live_nil (List.range r.length) (by rw [List.length_range]; omega) (by
    intro i hi
    refine ⟨[some (.d (tupI r)), some (.d (lstI (psums r))), v2, some (.d (.int (r.getD i 0))), some (.d (.int (r.take (i + 1)).sum))], by simp, ?_, ?_⟩
    · generalize (r.take (i + 1)).sum = x
      simp
    · simp)
  have key2 := fun v2 : Option Val => lc_if (w := ⟨(List.range r.length).map fun i => D.tup [.int (r.getD i 0), .int (r.take (i + 1)).sum], []⟩) (b := bTup 2 (bCons (bName 3) (bCons (bName 4) bNil))) (c := dTest (dOp2 leD (dVar 4) (dC (.int 0)))) (el := dVar 3) (ρ := [some (.d (tupI r)), some (.d (lstI (psums r))), v2, none, none]) (S := S) (fun i => D.tup [.int (r.getD i 0), .int (r.take (i + 1)).sum]) (fun i => decide ((r.take (i + 1)).sum ≤ 0)) (fun i => .int (r.getD i 0)) live_nil (List.range r.length) (by rw [List.length_range]; omega) (by
    intro i hi
    refine ⟨[some (.d (tupI r)), some (.d (lstI (psums r))), v2, some (.d (.int (r.getD i 0))), some (.d (.int (r.take (i + 1)).sum))], by simp, ?_, ?_⟩
    · generalize (r.take (i + 1)).sum = x
      simp
    · simp)
  have s1 := sel_map (fun v => decide (0 < v)) r
  have s2 := sel_map (fun v => decide (v ≤ 0)) r
  simp only [s1, s2] at key key2
  have l1 := sel_len (fun v => decide (0 < v)) r
  have l2 := sel_len (fun v => decide (v ≤ 0)) r
  have l4 : ((selI (fun v => decide (0 < v)) r).map D.int).length + ((selI (fun v => decide (v ≤ 0)) r).map D.int).length ≤ 1000000 := by simp; omega
  have et : tupI (mvI r) = .tup (((selI (fun v => decide (0 < v)) r).map D.int).reverse ++ (selI (fun v => decide (v ≤ 0)) r).map D.int) := by simp [tupI, mvI, upI, dnI, List.map_reverse]
  rw [et]
  simp only [tupI, lstI] at *
  generalize (selI (fun v => decide (0 < v)) r).map D.int = U at *
  generalize (selI (fun v => decide (v ≤ 0)) r).map D.int = V at *
  generalize ((List.range r.length).map fun i => D.tup [.int (r.getD i 0), .int (r.take (i + 1)).sum]) = PP at *
  generalize (psums r).map D.int = PS at *
  generalize r.map D.int = T1 at *
  simp [den__law_moved, bd__law_moved, q1, dZipM, arg2, zmW_tl, pz, nLc, wipeE, M.bind, key, key2, l4]
theorem p_same : ∀ (n : Nat) (x : D) (S : Store), plainN n x = true → den__law_same n [.d x, .d x] S = .ok (.d (.bl true)) S
  | 0, _, _, h => by cases h
  | n + 1, x, S, h => by
    cases x with
    | int i => simp [den__law_same, bd__law_same, isiB, isNonB]
    | bl i => simp [den__law_same, bd__law_same, isiB, isNonB]
    | non => simp [den__law_same, bd__law_same, isiB, isNonB]
    | str i => simp [den__law_same, bd__law_same, isiB, isNonB, eqD_ss]
    | tup xs =>
      rw [plain_tup, Bool.and_eq_true] at h
      have hz := of_decide_eq_true h.1
      have ha := List.all_eq_true.mp h.2
      simp [den__law_same, bd__law_same, isiB, isNonB, nLc, wipeE, M.bind, ziW, isSq, isTp, zip_self]
      rw [lc_all _ (fun _ => .bl true) live_nil xs (by omega)]
      · simp [all_true]
      · intro y hy
        simp [p_same n y S (ha y hy)]
    | lst xs =>
      rw [plain_lst, Bool.and_eq_true] at h
      have hz := of_decide_eq_true h.1
      have ha := List.all_eq_true.mp h.2
      simp [den__law_same, bd__law_same, isiB, isNonB, nLc, wipeE, M.bind, ziW, isSq, isTp, zip_self]
      rw [lc_all _ (fun _ => .bl true) live_nil xs (by omega)]
      · simp [all_true]
      · intro y hy
        simp [p_same n y S (ha y hy)]
    | _ => cases h
theorem mv_row {r : List Int} : Row (mvI r) ↔ Row r := by
  unfold Dn.Row
  rw [mv_len]
  exact ⟨fun ⟨a, b, c⟩ => ⟨a, b, fun x hx => c x ((mv_mem r x).mpr hx)⟩, fun ⟨a, b, c⟩ => ⟨a, b, fun x hx => c x ((mv_mem r x).mp hx)⟩⟩
theorem same_row {r : List Int} (h : Row r) (S : Store) : den__law_same 8 [.d (tupI r), .d (tupI r)] S = .ok (.d (.bl true)) S := p_same 8 _ S (plain_tupI (n := 6) (by have := h.2.1; omega))
theorem p_turn {n k : Nat} {v2 v3 v4 v5 v6 : Option Val} {S : Store} (h : Pool n S) : ∃ w2 w3 w4 w5 w6 S', Dr n S S' ∧ fb__law_right_0 [some (.cell n), some (.d (.int k)), v2, v3, v4, v5, v6] S = .next [some (.cell n), some (.d (.int k)), w2, w3, w4, w5, w6] S' := by
  obtain ⟨r, S1, l1, l8, rb, d1, e1⟩ := p_row (most := 8) h (by omega) (by omega)
  have R : Row r := ⟨l1, by omega, rb⟩
  have hr := R.2.1
  have Rm := mv_row.mpr R
  obtain ⟨r', er⟩ := mv_surj r.length r rfl
  have R' : Row r' := mv_row.mp (by rw [er]; exact R)
  -- told, up
  have q1 := p_moved R S1
  have q2 := p_sums r (by omega) S1
  have pz := pairs_mv r
  have key := lc_if (w := ⟨(List.range r.length).map fun i => D.tup [.int (r.getD i 0), .int (r.take (i + 1)).sum], []⟩) (b := bTup 2 (bCons (bName 5) (bCons (bName 6) bNil))) (c := dTest (dOp2 gtD (dVar 6) (dC (.int 0)))) (el := dVar 5) (ρ := [some (.cell n), some (.d (.int k)), some (.d (tupI r)), some (.d (tupI (mvI r))), v4, none, none]) (S := S1) (fun i => D.tup [.int (r.getD i 0), .int (r.take (i + 1)).sum]) (fun i => decide (0 < (r.take (i + 1)).sum)) (fun i => .int (r.getD i 0)) live_nil (List.range r.length) (by rw [List.length_range]; omega) (by
    intro i hi
    refine ⟨[some (.cell n), some (.d (.int k)), some (.d (tupI r)), some (.d (tupI (mvI r))), v4, some (.d (.int (r.getD i 0))), some (.d (.int (r.take (i + 1)).sum))], by simp, ?_, ?_⟩
    · generalize (r.take (i + 1)).sum = x
      simp
    · simp)
  have s1 := sel_map (fun v => decide (0 < v)) r
  simp only [s1] at key
  have eu : selI (fun v => decide (0 < v)) r = upI r := rfl
  rw [eu] at key
  -- the tests
  have q3 := p_law_moved (r := r) (by omega) S1
  have m1 := same_row Rm S1
  have f1 := f_first_highest Rm S1
  rw [mv_first] at f1
  have a1 := p_above R S1
  have ea : aboveN r = (upI r).length := above_up r
  rw [ea] at a1
  have g1 := f_highest Rm S1
  rw [mv_hi] at g1
  have su := sum_lst (ns := upI r)
  have q4 := p_moved_back Rm S1
  have m2 := same_row R S1
  have q5 := p_moved_back (r := r') (by rw [er]; exact R) S1
  rw [er] at q5
  have q6 := p_moved R' S1
  rw [er] at q6
  have a2 := p_above R' S1
  have ea2 : aboveN r' = (upI r').length := above_up r'
  rw [ea2] at a2
  have f2 := f_first_highest R S1
  have ff := mv_first r'
  rw [er] at ff
  rw [ff] at f2
  have nt : neD (tupI r) (tupI r) = some (.bl false) := by
    show neD (.tup (List.map D.int _)) (.tup (List.map D.int _)) = _
    rw [neD_tt]; simp
  refine ⟨some (.d (tupI r)), some (.d (tupI (mvI r))), some (.d (.lst ((upI r).map .int))), v5, v6, S1, d1, ?_⟩
  have s0 : fb__law_right_0 [some (.cell n), some (.d (.int k)), v2, v3, v4, v5, v6] S = fb__law_right_0_2 [some (.cell n), some (.d (.int k)), some (.d (tupI r)), some (.d (tupI (mvI r))), v4, v5, v6] S1 := by
    generalize tupI (mvI r) = T2 at *
    generalize tupI r = T1 at *
    by_cases c : (k : Int) = 1
    · simp [fb__law_right_0, e1, fb__law_right_0_1, c, pick1, q1]
    · simp [fb__law_right_0, e1, fb__law_right_0_1, c, q1]
  rw [s0]
  have s2 : fb__law_right_0_2 [some (.cell n), some (.d (.int k)), some (.d (tupI r)), some (.d (tupI (mvI r))), v4, v5, v6] S1 = fb__law_right_0_3 [some (.cell n), some (.d (.int k)), some (.d (tupI r)), some (.d (tupI (mvI r))), some (.d (.lst ((upI r).map .int))), v5, v6] S1 := by
    generalize tupI (mvI r) = T2 at *
    simp only [tupI, lstI] at *
    generalize (upI r).map D.int = U at *
    generalize ((List.range r.length).map fun i => D.tup [.int (r.getD i 0), .int (r.take (i + 1)).sum]) = PP at *
    generalize (psums r).map D.int = PS at *
    generalize r.map D.int = T1 at *
    simp [fb__law_right_0_2, q2, dZipM, arg2, zmW_tl, pz, nLc, wipeE, M.bind, key]
  rw [s2]
  generalize ((upI r).length : Int) = x1 at *
  generalize ((upI r').length : Int) = x2 at *
  generalize (upI r).sum = x3 at *
  generalize (upI r).map D.int = U at *
  generalize tupI (mvI r) = T2 at *
  generalize tupI r' = T3 at *
  generalize tupI r = T1 at *
  by_cases c : (k : Int) = 1
  · simp [fb__law_right_0_3, q3, m1, f1, a1, g1, su, fb__law_right_0_4, c, pick1, q4, m2, q5, q6, nt, fb__law_right_0_5, a2, f2]
  · simp [fb__law_right_0_3, q3, m1, f1, a1, g1, su, fb__law_right_0_4, c, q4, m2, q5, q6, nt, fb__law_right_0_5, a2, f2]
theorem p_right {n : Nat} {S : Store} (h : Pool n S) : ∃ S', den__law_right [.cell n] S = .ok (.d (.bl true)) S' := by
  obtain ⟨ρ2, S2, e, ⟨v1, v2, v3, v4, v5, v6, rfl⟩, d2⟩ := for_all (w := ⟨rngD 0 30, []⟩) (b := bName 1) (body := fb__law_right_0) (ρ := [some (.cell n), none, none, none, none, none, none]) (S := S)
    (fun i ρ S' => (∃ v1 v2 v3 v4 v5 v6, ρ = [some (.cell n), v1, v2, v3, v4, v5, v6]) ∧ Dr n S S') (fun _ _ _ _ => live_nil) (by
      rintro i x ρ S' hx ⟨⟨v1, v2, v3, v4, v5, v6, rfl⟩, d⟩
      obtain ⟨lap, hi, rfl⟩ := rngD_mem.mp (List.mem_of_getElem? hx)
      obtain ⟨w2, w3, w4, w5, w6, S3, d3, st⟩ := p_turn (k := lap) (v2 := v2) (v3 := v3) (v4 := v4) (v5 := v5) (v6 := v6) (h.dr d)
      exact ⟨[some (.cell n), some (.d (.int lap)), v2, v3, v4, v5, v6], _, S3, by simp, .inl st, ⟨_, _, _, _, _, _, rfl⟩, d.trans d3⟩) ⟨⟨_, _, _, _, _, _, rfl⟩, .refl h⟩
  have k1 := p_moved (r := [2, -1]) (by unfold Dn.Row; decide) S2
  have k2 := p_moved (r := [-1, 2]) (by unfold Dn.Row; decide) S2
  have k3 := p_moved (r := [1, -1]) (by unfold Dn.Row; decide) S2
  have k4 := p_moved (r := [-1, 1]) (by unfold Dn.Row; decide) S2
  rw [show mvI [2, -1] = [-1, 2] by decide +kernel] at k1
  rw [show mvI [-1, 2] = [2, -1] by decide +kernel] at k2
  rw [show mvI [1, -1] = [1, -1] by decide +kernel] at k3
  rw [show mvI [-1, 1] = [-1, 1] by decide +kernel] at k4
  have sm := p_same 8 (.tup [.tup [.int (-1), .int 2], .tup [.int 2, .int (-1)], .tup [.int 1, .int (-1)], .tup [.int (-1), .int 1]]) S2 (by decide +kernel)
  refine ⟨S2, ?_⟩
  simp at e
  simp [tupI] at k1 k2 k3 k4
  simp [den__law_right, bd__law_right, e, bd__law_right_1, k1, k2, k3, k4, sm, d2.exit]
theorem law_true (ns : List Int) (hl : ns.length ≤ 63) : ∃ S, den_law [.d (.scr ns)] [] = .ok (.d (.bl true)) S := by
  obtain ⟨ys, S1, e, _, al⟩ := lc_run (w := ⟨rngD 0 (max 1 (min (ns.length : Int) 2)).toNat, []⟩) (b := bName 1) (c := cYes) (el := dCall den__law_right (dCons (dCall den__law_pool (dCons (dVar 0) (dCons (dVar 1) dNil))) dNil))
    (ρ := [some (.d (.scr ns)), none]) (fun _ => True) (fun _ y => y = .bl true) (fun _ _ => live_nil) (by
      intro x S hx _
      obtain ⟨i, hi, rfl⟩ := rngD_mem.mp hx
      obtain ⟨a, b, c, e1⟩ := p_pool (lap := i) hl (by omega) S
      obtain ⟨S2, e2⟩ := p_right (pool_new (S := S) (a := a) (b := b) (c := c))
      refine ⟨[some (.d (.scr ns)), some (.d (.int i))], S2, .bl true, by simp, rfl, ?_, trivial, rfl⟩
      simp [e1, e2]) (rngD 0 (max 1 (min (ns.length : Int) 2)).toNat) [] [] (fun _ h => h) (by simp; omega) trivial
  obtain ⟨S2, e2⟩ := exit_d (n := 0) (x := .bl true) (S := S1)
  refine ⟨S2, ?_⟩
  simp at e
  simp [den_law, bd_law, nLc, wipeE, M.bind, show -1000000000000 ≤ max 1 (min (ns.length : Int) 2) ∧ max 1 (min (ns.length : Int) 2) ≤ 1000000000000 by omega]
  rw [e]
  simp [all_All2 al, e2]
end Lk10


namespace Lk10
open PySem PySem.Spec PyProof.Rows L2 Dn
theorem facts {P : Program} {w : World} {K : PySem.W.Frag} {h : Heap} {mg : Str → Option Value} {f : Addr} (X : K.In h) (G : h.Ns mainGlobals mg) (hfa : mg ("law" : Str) = some (.ref f)) (c : SaysB fa fn fbl K) :
    ∃ fd : FuncData, (∀ (s : Shared) (v : Value), BindsTo s fd ⟨[v], []⟩ [("script", v)]) ∧ ∀ base : Heap, K.In base → base.Ns mainGlobals mg → FnOk P w K mg base (L2.CX P w) 11 f fd ["script"] (spD ⟨K, mg⟩ 1 den_law) := by
  have T := mkT X G c
  have e := hfa.symm.trans T.g_law
  cases e
  have b := FunD.bindsA (ps := ["script"]) T.F_law fun _ _ _ _ _ _ us hl => match us, hl with | [_], _ => rfl
  exact ⟨T.d_law, fun s v => b s [v] rfl, fun base _ _ => ok_law T⟩
end Lk10
open PySem PySem.W PySem.Calls PyProof.Rows in
theorem PySem.Challenge.cw_leadsums_k10_whole_moved_rows_holds : PySem.Challenge.rw_leadsums_k10_whole_moved_rows.Holds := by
  w_on; o_law
  refine HandSHeadRun.head_any (r := OpenLaw.row PySem.Challenge.rw_leadsums_k10_whole_moved_rows) (q := view (OpenLaw.row PySem.Challenge.rw_leadsums_k10_whole_moved_rows).prog [35]) (H := Lk10.hk) (ob := Lk10.ob) (M := 3000) (loose := Lk10.loose) (d := HandSHeadRun.topDef (OpenLaw.row PySem.Challenge.rw_leadsums_k10_whole_moved_rows).prog 35) (kwd := []) Lk10.ob_eq
    (by kernel_rfl) (fun s => by kernel_rfl) Lk10.run (by kernel_rfl) (by kernel_rfl) (by kernel_rfl) (by rfl) (by first | assumption | decide +kernel) (by decide +kernel) ⟨rfl, rfl, rfl, rfl, rfl, by decide +kernel⟩ ?hw ?hc
  case hw => w_witness2
  case hc =>
    refine Dn.walkW (l := PySem.Challenge.rw_leadsums_k10_whole_moved_rows) (n := 63) (k := 11) (x := "script") rfl (by decide) (by kernel_rfl) ⟨rfl, by decide, by decide⟩ ?F
    intro w mg fa h Y G hmg0
    obtain ⟨K, KX, c⟩ := Y
    have hmg : mg ("law" : PySem.Str) = some (.ref fa) := by
      have e : (HandSHeadRun.topDef (OpenLaw.row PySem.Challenge.rw_leadsums_k10_whole_moved_rows).prog 35).name = ("law" : PySem.Str) := by kernel_rfl
      rw [← e]
      exact hmg0
    obtain ⟨fd, hb, hF⟩ := Lk10.facts (P := (PySem.Challenge.rw_leadsums_k10_whole_moved_rows).prog) (w := w) KX G hmg c
    exact ⟨K, fd, Dn.spD ⟨K, mg⟩ 1 Lk10.den_law, KX, hb, fun H a ns hl ho hS => let ⟨_, e⟩ := Lk10.law_true ns hl; Dn.law_start ho hS e, hF⟩

