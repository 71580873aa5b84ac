import PyProof.Rows.All
import HandS.ForMost
import HandS.Lambda
import HandS.ExcInit
import HandS.ExcField
import HandS.ExcIs
import HandS.ExcOwn
import HandS.TryOnly
import HandS.WordsExc
import HandS.EndTab
import HandS.TupAny
import HandS.Conv
import HandS.Strs
import HandS.SortInts
import HandS.IsInst
import KE.GoesEnum
import HandS.SetBool
import HandS.TupLen
import HandS.DictComp
import KE.SortData
import KE.DataMinMax
import HandS.Defaults
import HandS.SortKw
import KE.KDictCopyH
import HandS.Set
import HandS.TupSets
import HandS.SetFor
import KE.KDictWalk
import HandS.More
import HandS.ClsMeth
import HandS.EndOwn
import KE.KNestM
import KE.KExcIs
import PyProof.Rows.CountFlat
import KE.KDflt
import PyProof.Rows.ListMulArg
import HandS.Sort
import PyProof.Rows.InDataRows
import PySem.Challenge.RW_wishbound_k04_cheapest_by_going_on
set_option Elab.async false
set_option linter.all false
set_option maxRecDepth 100000
set_option maxHeartbeats 4000000
set_option autoImplicit false
/-! DL0: data in place of the heap. D: a value as a tree; Rep: how it lies; SV: what a slot holds; RG, Aft; TD, PD: readings over slots alone. -/
namespace DL
open PySem PySem.Spec PyProof.Rows L2

abbrev D := PyData
abbrev Sl := L2.St
/-- a list that is never changed again -/
def FzL (K : PySem.W.Frag) (H : Hp) (a : Addr) (xs : List V) : Prop := (∃ o, H a = some (.frz o (.lst xs))) ∨
  ∃ (o : Obj) (its : Array Value) (n : Nat), K.lookup a = some o ∧ o.cls = .type "list" ∧ o.dict = none ∧ o.data = .seq its n ∧ its.size ≤ sizeLine ∧ Vals xs its.toList
theorem FzL.sq {K : PySem.W.Frag} {H : Hp} {a : Addr} {xs : List V} (h : FzL K H a xs) : SqL K H a xs := h.elim (fun h => .inl (.inr h)) .inr
/-- a tuple -/
def StT (_ : PySem.W.Frag) (H : Hp) (a : Addr) (xs : List V) : Prop := H a = some (.tup xs)
theorem StT.sq {K : PySem.W.Frag} {H : Hp} {a : Addr} {xs : List V} (h : StT K H a xs) : SqT K H a xs := .inl (.inl h)
mutual
/-- v stands for d, for ever -/
def Rep (K : PySem.W.Frag) (H : Hp) : D → V → Prop
  | .none, v => v = .non
  | .bool b, v => v = .bl b
  | .int i, v => v = .int i
  | .str x, v => v = .str x ∧ PyData.strOk x = true
  | .tuple ds, v => ∃ a vs, v = .ref a ∧ StT K H a vs ∧ Reps K H ds vs
  | .list ds, v => ∃ a vs, v = .ref a ∧ FzL K H a vs ∧ Reps K H ds vs
  | .dict kvs, v => ∃ a o vs, v = .ref a ∧ H a = some (.frz o (.frz o (.dT vs))) ∧ RepD K H kvs vs
def Reps (K : PySem.W.Frag) (H : Hp) : List D → List V → Prop
  | [], vs => vs = []
  | d :: ds, vs => ∃ v r, vs = v :: r ∧ Rep K H d v ∧ Reps K H ds r
/-- the pairs of a dict that is never changed again: its keys are tuples of ints -/
def RepD (K : PySem.W.Frag) (H : Hp) : List (D × D) → List (List Key × V) → Prop
  | [], vs => vs = []
  | p :: r, vs => ∃ kv r', vs = kv :: r' ∧ RepP K H p kv ∧ RepD K H r r'
def RepP (K : PySem.W.Frag) (H : Hp) : D × D → List Key × V → Prop
  | (k, d), kv => (∃ ks : List Int, k = .tuple (ks.map .int) ∧ kv.1 = ks.map Sum.inl) ∧ Rep K H d kv.2
end
/-- no table of code objects -/
class NT (u : HO) : Prop where
  nt : ∀ ps, u ≠ .tbl ps
instance {xs : List V} : NT (.lst xs) := ⟨fun _ z => by cases z⟩
instance {xs : List V} : NT (.tup xs) := ⟨fun _ z => by cases z⟩
instance {kvs} : NT (.dK kvs) := ⟨fun _ z => by cases z⟩
instance {kvs} : NT (.dT kvs) := ⟨fun _ z => by cases z⟩
instance {o u} : NT (.frz o u) := ⟨fun _ z => by cases z⟩
instance {s n} : NT (.set s n) := ⟨fun _ z => by cases z⟩
instance {c dx fs} : NT (.ins c dx fs) := ⟨fun _ z => by cases z⟩
instance {fs} : NT (.xd fs) := ⟨fun _ z => by cases z⟩
instance {y} : NT (.own y) := ⟨fun _ z => by cases z⟩
instance {φ} : NT (.ext φ) := ⟨fun _ z => by cases z⟩
instance {a b} : NT (.rng a b) := ⟨fun _ z => by cases z⟩
instance {a b} : NT (.met a b) := ⟨fun _ z => by cases z⟩
/-- may change: what may be written, and tables -/
def MuT : Option HO → Prop
  | some (.tbl _) => True
  | some (.frz _ (.tup _)) => True
  | o => Mut o
theorem mu_t {o : Option HO} (h : Mut o) : MuT o := by
  cases o with
  | none => exact h
  | some u => cases u <;> first | exact h | exact (show False from h).elim | trivial
/-- a list, a dict, a set, an instance -/
def MuL : Option HO → Prop
  | some (.lst _) => True
  | some (.dK _) => True
  | some (.dT _) => True
  | some (.set _ _) => True
  | some (.ins _ _ _) => True
  | some (.ext φ) => ∀ c q, HO.ext φ ≠ LamX.CodeO c q
  | some (.frz _ (.tup _)) => True
  | _ => False
/-- a heap of such objects alone -/
theorem heap_all (o : Obj) (ho : o.isFreed = false) : ∀ n : Nat, ∃ h : Heap, h.objs.size = n ∧ ∀ a, a < n → h.get? a = some o
  | 0 => ⟨{ objs := #[] }, rfl, fun a h => by omega⟩
  | n + 1 => by
    obtain ⟨h, e, k⟩ := heap_all o ho n
    refine ⟨h.push o, by rw [Heap.size_push, e], fun a ha => ?_⟩
    by_cases z : a = n
    · subst z
      rw [← e]
      exact Heap.get?_push_size h ho
    · exact Heap.get?_push_of_some _ (k a (by omega))
theorem mul_t {o : Option HO} (h : MuL o) : MuT o := by
  cases o with
  | none => exact h.elim
  | some u =>
    cases u with
    | frz ob u => cases u <;> first | trivial | exact (show False from h).elim
    | _ => first | trivial | exact (show False from h).elim
/-- the name that the law's lambdas bear -/
def lamq : Str := "law.<locals>.<lambda>"
/-- tables stay tables, with code objects of that name alone -/
def TbOk (H H' : Hp) : Prop := (∀ a, LamX.TabS H a lamq → LamX.TabS H' a lamq) ∧ ∀ a ps, H a = some (.tbl ps) → ∃ qs, H' a = some (.tbl qs)
/-- what never changes stays -/
structure Imm (H H' : Hp) : Prop where
  of ::
  im : ∀ a u, H a = some u → ¬ MuT (some u) → H' a = some u
  tb : TbOk H H'
instance {H H' : Hp} : CoeFun (Imm H H') (fun _ => ∀ a u, H a = some u → ¬ MuT (some u) → H' a = some u) := ⟨Imm.im⟩
section
variable {K : PySem.W.Frag} {H H' H1 H2 : Hp}
theorem TbOk.refl (H : Hp) : TbOk H H := ⟨fun _ h => h, fun _ _ h => ⟨_, h⟩⟩
theorem TbOk.trans (a : TbOk H H1) (b : TbOk H1 H2) : TbOk H H2 := ⟨fun c h => b.1 c (a.1 c h), fun c ps h => by
  obtain ⟨qs, z⟩ := a.2 c ps h
  exact b.2 c qs z⟩
theorem TbOk.same (e : ∀ b o, H b = some o → H' b = some o) : TbOk H H' := ⟨fun _ h => h.ext e, fun _ ps h => ⟨ps, e _ _ h⟩⟩
/-- all tables and code objects stay -/
theorem TbOk.keep (e : ∀ b o, H b = some o → (∀ ps, o = .tbl ps → H' b = some o) ∧ ∀ q, o = LamX.CodeO b q → H' b = some o) : TbOk H H' := ⟨fun P ⟨ps, h1, h2, h3⟩ => ⟨ps, (e _ _ h1).1 _ rfl, h2, fun pos cv hc => by
  obtain ⟨c, e1, e2⟩ := h3 pos cv hc
  exact ⟨c, e1, (e _ _ e2).2 _ rfl⟩⟩, fun _ ps h => ⟨ps, (e _ _ h).1 _ rfl⟩⟩
theorem TbOk.upd {p : Addr} {o : HO} (h : ∀ u, H p = some u → (∀ ps, u ≠ .tbl ps) ∧ ∀ q, u ≠ LamX.CodeO p q) : TbOk H (upd H p o) := .keep fun b u e => by
  by_cases z : b = p
  · subst z
    exact ⟨fun ps z => absurd z ((h u e).1 ps), fun q z => absurd z ((h u e).2 q)⟩
  · rw [upd_ne z]
    exact ⟨fun _ _ => e, fun _ _ => e⟩
theorem TbOk.frz {p : Addr} {o : HO} {ob : Obj} {u : HO} (h : H p = some (.frz ob u)) : TbOk H (L2.upd H p o) := .upd fun w e => by
  rw [h] at e
  cases e
  exact ⟨fun ps z => (by cases z), fun q z => by
    have z2 : HO.frz _ _ = HO.ext _ := z
    cases z2⟩
theorem Imm.refl (H : Hp) : Imm H H := ⟨fun _ _ h _ => h, .refl H⟩
theorem Imm.trans (a : Imm H H1) (b : Imm H1 H2) : Imm H H2 := ⟨fun c u h m => b c u (a c u h m) m, a.tb.trans b.tb⟩
theorem Imm.upd {p : Addr} {o : HO} (h : H p = none ∨ MuL (H p)) : Imm H (upd H p o) := by
  refine ⟨fun a u e m => ?_, .keep fun b u e => ?_⟩
  · have ne : a ≠ p := fun z => by
      subst z
      rcases h with h | h
      · rw [h] at e; cases e
      · rw [e] at h; exact m (mul_t h)
    rw [upd_ne ne]; exact e
  · by_cases z : b = p
    · subst z
      rcases h with h | h
      · rw [h] at e; cases e
      · rw [e] at h
        refine ⟨fun ps z => ?_, fun q z => ?_⟩
        · subst z
          exact h.elim
        · subst z
          exact absurd rfl ((show ∀ c q', LamX.CodeO b q ≠ LamX.CodeO c q' from h) b q)
    · rw [upd_ne z]
      exact ⟨fun _ _ => e, fun _ _ => e⟩
/-- data stay: tuples, lists that never change -/
def Imr (H H' : Hp) : Prop := (∀ a xs, H a = some (.tup xs) → H' a = some (.tup xs)) ∧ (∀ a o xs, H a = some (.frz o (.lst xs)) → H' a = some (.frz o (.lst xs))) ∧
  ∀ a o xs, H a = some (.frz o (.frz o (.dT xs))) → H' a = some (.frz o (.frz o (.dT xs)))
theorem Imm.r (i : Imm H H') : Imr H H' := ⟨fun a xs h => i _ _ h (fun z => z), fun a o xs h => i _ _ h (fun z => z), fun a o xs h => i _ _ h (fun z => z)⟩
theorem FzL.imr {a : Addr} {xs : List V} (h : FzL K H a xs) (i : Imr H H') : FzL K H' a xs := by
  rcases h with ⟨o, h⟩ | h
  · exact .inl ⟨o, i.2.1 _ _ _ h⟩
  · exact .inr h
theorem StT.imr {a : Addr} {xs : List V} (h : StT K H a xs) (i : Imr H H') : StT K H' a xs := i.1 _ _ h
mutual
theorem Rep.imr : ∀ {d : D} {v : V}, Rep K H d v → Imr H H' → Rep K H' d v
  | .none, _, h, _ => h
  | .bool _, _, h, _ => h
  | .int _, _, h, _ => h
  | .str _, _, h, _ => h
  | .tuple ds, _, h, i => by
    obtain ⟨a, vs, e, h1, h2⟩ := h
    exact ⟨a, vs, e, StT.imr h1 i, Reps.imr h2 i⟩
  | .list ds, _, h, i => by
    obtain ⟨a, vs, e, h1, h2⟩ := h
    exact ⟨a, vs, e, FzL.imr h1 i, Reps.imr h2 i⟩
  | .dict kvs, _, h, i => by
    obtain ⟨a, o, vs, e, h1, h2⟩ := h
    exact ⟨a, o, vs, e, i.2.2 _ _ _ h1, RepD.imr h2 i⟩
theorem Reps.imr : ∀ {ds : List D} {vs : List V}, Reps K H ds vs → Imr H H' → Reps K H' ds vs
  | [], _, h, _ => h
  | d :: ds, _, h, i => by
    obtain ⟨v, r, e, h1, h2⟩ := h
    exact ⟨v, r, e, Rep.imr h1 i, Reps.imr h2 i⟩
theorem RepD.imr : ∀ {ds : List (D × D)} {vs : List (List Key × V)}, RepD K H ds vs → Imr H H' → RepD K H' ds vs
  | [], _, h, _ => h
  | p :: r, _, h, i => by
    obtain ⟨kv, r', e, h1, h2⟩ := h
    exact ⟨kv, r', e, RepP.imr h1 i, RepD.imr h2 i⟩
theorem RepP.imr : ∀ {p : D × D} {kv : List Key × V}, RepP K H p kv → Imr H H' → RepP K H' p kv
  | (k, d), _, h, i => ⟨h.1, Rep.imr h.2 i⟩
end
theorem FzL.imm {a : Addr} {xs : List V} (h : FzL K H a xs) (i : Imm H H') : FzL K H' a xs := FzL.imr h i.r
theorem StT.imm {a : Addr} {xs : List V} (h : StT K H a xs) (i : Imm H H') : StT K H' a xs := StT.imr h i.r
theorem Rep.imm {d : D} {v : V} (h : Rep K H d v) (i : Imm H H') : Rep K H' d v := Rep.imr h i.r
theorem Reps.imm {ds : List D} {vs : List V} (h : Reps K H ds vs) (i : Imm H H') : Reps K H' ds vs := Reps.imr h i.r
theorem Reps.len : ∀ {ds : List D} {vs : List V}, Reps K H ds vs → vs.length = ds.length
  | [], _, h => by rw [show _ = [] from h]; rfl
  | _ :: _, _, h => by
    obtain ⟨v, r, rfl, _, h2⟩ := h
    simp only [List.length_cons, Reps.len h2]
theorem Reps.get : ∀ {ds : List D} {vs : List V} {i : Nat} {d : D}, Reps K H ds vs → ds[i]? = some d → ∃ v, vs[i]? = some v ∧ Rep K H d v
  | [], _, _, _, _, e => by simp at e
  | x :: ds, _, 0, d, h, e => by
    obtain ⟨v, r, rfl, h1, h2⟩ := h
    simp only [List.getElem?_cons_zero, Option.some.injEq] at e
    subst e
    exact ⟨v, rfl, h1⟩
  | x :: ds, _, i + 1, d, h, e => by
    obtain ⟨v, r, rfl, h1, h2⟩ := h
    simp only [List.getElem?_cons_succ] at e
    obtain ⟨u, e1, e2⟩ := Reps.get h2 e
    exact ⟨u, by simpa using e1, e2⟩
theorem Reps.append : ∀ {ds es : List D} {vs us : List V}, Reps K H ds vs → Reps K H es us → Reps K H (ds ++ es) (vs ++ us)
  | [], _, _, _, h, h' => by rw [show _ = [] from h]; exact h'
  | _ :: _, _, _, _, h, h' => by
    obtain ⟨v, r, rfl, h1, h2⟩ := h
    exact ⟨v, _, rfl, h1, Reps.append h2 h'⟩
theorem Reps.one {d : D} {v : V} (h : Rep K H d v) : Reps K H [d] [v] := ⟨v, [], rfl, h, rfl⟩
theorem Reps.take : ∀ {ds : List D} {vs : List V} (n : Nat), Reps K H ds vs → Reps K H (ds.take n) (vs.take n)
  | _, _, 0, _ => by simp only [List.take_zero]; exact rfl
  | [], _, _ + 1, h => by rw [show _ = [] from h]; exact rfl
  | _ :: _, _, n + 1, h => by
    obtain ⟨v, r, rfl, h1, h2⟩ := h
    exact ⟨v, _, rfl, h1, Reps.take n h2⟩
theorem Reps.drop : ∀ {ds : List D} {vs : List V} (n : Nat), Reps K H ds vs → Reps K H (ds.drop n) (vs.drop n)
  | _, _, 0, h => h
  | [], _, _ + 1, h => by rw [show _ = [] from h]; exact rfl
  | _ :: _, _, n + 1, h => by
    obtain ⟨v, r, rfl, h1, h2⟩ := h
    exact Reps.drop n h2
theorem Reps.set {d : D} {v : V} (h : Rep K H d v) : ∀ {ds : List D} {vs : List V} (n : Nat), Reps K H ds vs → Reps K H (ds.set n d) (vs.set n v)
  | [], _, _, q => by rw [show _ = [] from q]; exact rfl
  | _ :: _, _, 0, q => by
    obtain ⟨u, r, rfl, h1, h2⟩ := q
    exact ⟨v, r, rfl, h, h2⟩
  | _ :: _, _, n + 1, q => by
    obtain ⟨u, r, rfl, h1, h2⟩ := q
    exact ⟨u, _, rfl, h1, Reps.set h n h2⟩
theorem Reps.eraseIdx : ∀ {ds : List D} {vs : List V} (n : Nat), Reps K H ds vs → Reps K H (ds.eraseIdx n) (vs.eraseIdx n)
  | [], _, _, q => by rw [show _ = [] from q]; exact rfl
  | _ :: _, _, 0, q => by
    obtain ⟨u, r, rfl, h1, h2⟩ := q
    exact h2
  | _ :: _, _, n + 1, q => by
    obtain ⟨u, r, rfl, h1, h2⟩ := q
    exact ⟨u, _, rfl, h1, Reps.eraseIdx n h2⟩
theorem Reps.reverse : ∀ {ds : List D} {vs : List V}, Reps K H ds vs → Reps K H ds.reverse vs.reverse
  | [], _, q => by rw [show _ = [] from q]; exact rfl
  | _ :: _, _, q => by
    obtain ⟨u, r, rfl, h1, h2⟩ := q
    simp only [List.reverse_cons]
    exact Reps.append (Reps.reverse h2) (Reps.one h1)
theorem Reps.dropLast : ∀ {ds : List D} {vs : List V}, Reps K H ds vs → Reps K H ds.dropLast vs.dropLast := fun {ds vs} h => by
  rw [List.dropLast_eq_take, List.dropLast_eq_take, h.len]
  exact h.take _
theorem Reps.ints : ∀ {xs : List Int} {vs : List V}, Reps K H (xs.map .int) vs → vs = xs.map V.int
  | [], _, h => h
  | x :: xs, _, h => by
    obtain ⟨v, r, rfl, h1, h2⟩ := h
    rw [Reps.ints h2, show v = .int x from h1]
    rfl
theorem Reps.of_ints : ∀ (xs : List Int), Reps K H (xs.map .int) (xs.map V.int)
  | [] => rfl
  | x :: xs => ⟨_, _, rfl, rfl, Reps.of_ints xs⟩
theorem Reps.strs : ∀ {xs : List Str} {vs : List V}, Reps K H (xs.map .str) vs → vs = xs.map V.str
  | [], _, h => h
  | x :: xs, _, h => by
    obtain ⟨v, r, rfl, h1, h2⟩ := h
    rw [Reps.strs h2, show v = .str x from h1.1]
    rfl
theorem Reps.of_strs : ∀ (xs : List Str), (∀ x ∈ xs, PyData.strOk x = true) → Reps K H (xs.map .str) (xs.map V.str)
  | [], _ => rfl
  | x :: xs, h => ⟨_, _, rfl, ⟨rfl, h x List.mem_cons_self⟩, Reps.of_strs xs fun y hy => h y (List.mem_cons_of_mem _ hy)⟩
theorem Reps.bools : ∀ {xs : List Bool} {vs : List V}, Reps K H (xs.map .bool) vs → vs = xs.map V.bl
  | [], _, h => h
  | x :: xs, _, h => by
    obtain ⟨v, r, rfl, h1, h2⟩ := h
    rw [Reps.bools h2, show v = .bl x from h1]
    rfl
end

/-! ### what a slot holds -/
/-- how things that hold things are: a tuple, a list, an instance with its attributes' names, a dict with text keys -/
inductive Sh where
  | tup
  | lst
  | ins (cl dx : Addr) (ns : List Str)
  | dS (ks : List Str)
mutual
/-- what is one's own to change: a list; a dict with int keys, with keys that are tuples of ints; such a one while it is walked; a thing that holds others of one's own -/
inductive O where
  | lst (ds : List D)
  | dI (kvs : List (Int × D))
  | dT (kvs : List (List Int × D))
  | dR (kvs : List (List Int × D))
  | nest (sh : Sh) (cs : List C)
  | tup (ds : List D)
/-- a thing held -/
inductive C where
  | no
  | d (x : D)
  | o (p : Addr) (u : O)
end
mutual
def O.fp : O → List Addr
  | .lst _ => []
  | .dI _ => []
  | .dT _ => []
  | .dR _ => []
  | .nest _ cs => fps cs
  | .tup _ => []
def C.fp : C → List Addr
  | .no => []
  | .d _ => []
  | .o p u => p :: O.fp u
def fps : List C → List Addr
  | [] => []
  | c :: cs => C.fp c ++ fps cs
end
/-- a slot, or what an expression gives: nothing known; data; an object of one's own; a value as it is; (of expressions alone) what the slot i holds, what lies there at a place -/
inductive SV where
  | no
  | fz (d : D)
  | ow (p : Addr) (o : O)
  | raw (v : V)
  | bw (i : Nat)
abbrev G := List SV
def ft : SV → List Addr
  | .ow p o => p :: o.fp
  | _ => []
def PRep {κ κ' : Type} (K : PySem.W.Frag) (H : Hp) (f : κ → κ') : List (κ × D) → List (κ' × V) → Prop
  | [], vs => vs = []
  | (k, d) :: r, vs => ∃ v r', vs = (f k, v) :: r' ∧ Rep K H d v ∧ PRep K H f r r'
theorem PRep.imr {κ κ' : Type} {K : PySem.W.Frag} {H H' : Hp} {f : κ → κ'} : ∀ {kvs : List (κ × D)} {vs : List (κ' × V)}, PRep K H f kvs vs → Imr H H' → PRep K H' f kvs vs
  | [], _, h, _ => h
  | (k, d) :: r, _, h, i => by
    obtain ⟨v, r', e, h1, h2⟩ := h
    exact ⟨v, r', e, h1.imr i, PRep.imr h2 i⟩
theorem PRep.imm {κ κ' : Type} {K : PySem.W.Frag} {H H' : Hp} {f : κ → κ'} {kvs : List (κ × D)} {vs : List (κ' × V)} (h : PRep K H f kvs vs) (i : Imm H H') : PRep K H' f kvs vs := h.imr i.r
def kI (i : Int) : Key := .inl i
def kT (xs : List Int) : List Key := xs.map .inl
def ShOk (H : Hp) (p : Addr) : Sh → List V → Prop
  | .tup, vs => H p = some (.tup vs)
  | .lst, vs => H p = some (.lst vs)
  | .ins c dx ns, vs => ns.length = vs.length ∧ H p = some (.ins c dx (ns.zip vs))
  | .dS ks, vs => ks.length = vs.length ∧ H p = some (.dK ((ks.map Sum.inr).zip vs))
mutual
def OwnOk (K : PySem.W.Frag) (H : Hp) (p : Addr) : O → Prop
  | .lst ds => ∃ vs, H p = some (.lst vs) ∧ Reps K H ds vs
  | .dI kvs => ∃ vs, H p = some (.dK vs) ∧ PRep K H kI kvs vs
  | .dT kvs => ∃ vs, H p = some (.dT vs) ∧ PRep K H kT kvs vs
  | .dR kvs => ∃ o vs, H p = some (.frz o (.dT vs)) ∧ PRep K H kT kvs vs
  | .nest sh cs => ∃ vs, ShOk H p sh vs ∧ ChOks K H cs vs ∧ (p :: fps cs).Nodup
  | .tup ds => ∃ o vs, o.dict = none ∧ H p = some (.frz o (.tup vs)) ∧ Reps K H ds vs
def ChOk (K : PySem.W.Frag) (H : Hp) : C → V → Prop
  | .no, _ => True
  | .d x, v => Rep K H x v
  | .o q u, v => v = .ref q ∧ OwnOk K H q u
def ChOks (K : PySem.W.Frag) (H : Hp) : List C → List V → Prop
  | [], vs => vs = []
  | c :: cs, vs => ∃ v r, vs = v :: r ∧ ChOk K H c v ∧ ChOks K H cs r
end
/-- the address p is of one's own -/
def own (Γ : G) (p : Addr) : Prop := ∃ (i : Nat) (s : SV), Γ[i]? = some s ∧ p ∈ ft s
/-- the table of code objects of the def law -/
def LawTab (K : PySem.W.Frag) (P : Addr) : Prop := ∃ (fa : Addr) (o : Obj) (fd : FuncData) (c : Addr) (e : Value) (dd : Option Addr) (vs : Array Value) (sl : Array (Option Value)), PySem.W.nsIn K mainGlobals "law" = some (some (.ref fa)) ∧ K.lookup fa = some o ∧ o.data = .func fd ∧
  fd.code = .ref c ∧ K.lookup c = some ⟨e, dd, .fields vs, sl⟩ ∧ vs[11]? = some (.ref P)
structure RG (K : PySem.W.Frag) (H : Hp) (σ : Sl) (Γ : G) : Prop where
  len : Γ.length = σ.length
  fz : ∀ (i : Nat) (d : D), Γ[i]? = some (.fz d) → ∃ v, σ[i]? = some (some v) ∧ Rep K H d v
  ow : ∀ (i : Nat) (p : Addr) (o : O), Γ[i]? = some (.ow p o) → σ[i]? = some (some (.ref p)) ∧ OwnOk K H p o
  raw : ∀ (i : Nat) (v : V), Γ[i]? = some (.raw v) → σ[i]? = some (some v)
  one : ∀ (i j : Nat) (s t : SV) (a : Addr), Γ[i]? = some s → Γ[j]? = some t → a ∈ ft s → a ∈ ft t → i = j
  tb : ∀ P, LawTab K P → LamX.TabS H P lamq
/-- what stands behind a piece of code -/
structure Aft (K : PySem.W.Frag) (H : Hp) (Γ : G) (H' : Hp) (σ' : Sl) (Γ' : G) : Prop where
  keep : ∀ a u, H a = some u → ¬ own Γ a → [NT u] → H' a = some u
  rg : RG K H' σ' Γ'
  sh : ∀ a, own Γ' a → own Γ a ∨ H a = none
  im : Imm H H'
/-- what an expression's value is -/
def Res (K : PySem.W.Frag) (H : Hp) (σ : Sl) (Γ : G) (H' : Hp) (Γ' : G) (v : V) : SV → Prop
  | .no => True
  | .fz d => Rep K H' d v
  | .ow p o => v = .ref p ∧ OwnOk K H' p o ∧ (∀ a ∈ p :: o.fp, ¬ own Γ' a) ∧ (∀ a ∈ p :: o.fp, own Γ a ∨ H a = none)
  | .raw u => v = u
  | .bw i => σ[i]? = some (some v)
section
variable {K : PySem.W.Frag} {H H' H1 H2 : Hp} {σ σ' σ1 σ2 : Sl} {Γ Γ' Γ1 Γ2 : G} {p : Addr} {o : O} {v : V} {r : SV}
theorem ShOk.there {sh : Sh} {vs : List V} (h : ShOk H p sh vs) : H p ≠ none := by
  intro z
  cases sh with
  | tup => rw [show H p = _ from h] at z; cases z
  | lst => rw [show H p = _ from h] at z; cases z
  | ins c dx ns => rw [h.2] at z; cases z
  | dS ks => rw [h.2] at z; cases z
theorem ShOk.keep {sh : Sh} {vs : List V} (h : ShOk H p sh vs) (e : ∀ u, H p = some u → [NT u] → H' p = some u) : ShOk H' p sh vs := by
  cases sh with
  | tup => exact e _ h
  | lst => exact e _ h
  | ins c dx ns => exact ⟨h.1, e _ h.2⟩
  | dS ks => exact ⟨h.1, e _ h.2⟩
mutual
theorem OwnOk.there : ∀ {p : Addr} {o : O}, OwnOk K H p o → ∀ a ∈ p :: o.fp, H a ≠ none
  | p, .lst ds, h, a, ha => by
    obtain ⟨vs, e, _⟩ := h
    rw [show a = p by simpa [O.fp] using ha, e]; exact fun z => by cases z
  | p, .dI kvs, h, a, ha => by
    obtain ⟨vs, e, _⟩ := h
    rw [show a = p by simpa [O.fp] using ha, e]; exact fun z => by cases z
  | p, .dT kvs, h, a, ha => by
    obtain ⟨vs, e, _⟩ := h
    rw [show a = p by simpa [O.fp] using ha, e]; exact fun z => by cases z
  | p, .dR kvs, h, a, ha => by
    obtain ⟨o, vs, e, _⟩ := h
    rw [show a = p by simpa [O.fp] using ha, e]; exact fun z => by cases z
  | p, .tup ds, h, a, ha => by
    obtain ⟨o, vs, _, e, _⟩ := h
    rw [show a = p by simpa [O.fp] using ha, e]; exact fun z => by cases z
  | p, .nest sh cs, h, a, ha => by
    obtain ⟨vs, e, h2, _⟩ := h
    rcases List.mem_cons.mp ha with rfl | ha
    · exact e.there
    · exact ChOks.there h2 a (by simpa [O.fp] using ha)
theorem ChOk.there : ∀ {c : C} {v : V}, ChOk K H c v → ∀ a ∈ c.fp, H a ≠ none
  | .no, _, _, a, ha => by simp [C.fp] at ha
  | .d x, _, _, a, ha => by simp [C.fp] at ha
  | .o q u, _, h, a, ha => OwnOk.there h.2 a (by simpa [C.fp] using ha)
theorem ChOks.there : ∀ {cs : List C} {vs : List V}, ChOks K H cs vs → ∀ a ∈ fps cs, H a ≠ none
  | [], _, _, a, ha => by simp [fps] at ha
  | c :: cs, _, h, a, ha => by
    obtain ⟨v, r, _, h1, h2⟩ := h
    rcases List.mem_append.mp (show a ∈ c.fp ++ fps cs by simpa [fps] using ha) with z | z
    · exact ChOk.there h1 a z
    · exact ChOks.there h2 a z
end
mutual
theorem OwnOk.keepr : ∀ {p : Addr} {o : O}, OwnOk K H p o → (∀ a ∈ p :: o.fp, ∀ u, H a = some u → [NT u] → H' a = some u) → Imr H H' → OwnOk K H' p o
  | p, .lst ds, h, e, i => by obtain ⟨vs, q, r⟩ := h; exact ⟨vs, e p List.mem_cons_self _ q, r.imr i⟩
  | p, .dI kvs, h, e, i => by obtain ⟨vs, q, r⟩ := h; exact ⟨vs, e p List.mem_cons_self _ q, r.imr i⟩
  | p, .dT kvs, h, e, i => by obtain ⟨vs, q, r⟩ := h; exact ⟨vs, e p List.mem_cons_self _ q, r.imr i⟩
  | p, .dR kvs, h, e, i => by obtain ⟨o, vs, q, r⟩ := h; exact ⟨o, vs, e p List.mem_cons_self _ q, r.imr i⟩
  | p, .tup ds, h, e, i => by obtain ⟨o, vs, d, q, r⟩ := h; exact ⟨o, vs, d, e p List.mem_cons_self _ q, r.imr i⟩
  | p, .nest sh cs, h, e, i => by
    obtain ⟨vs, q, r, nd⟩ := h
    exact ⟨vs, q.keep (e p List.mem_cons_self), ChOks.keepr r (fun a ha => e a (List.mem_cons_of_mem _ (by simpa [O.fp] using ha))) i, nd⟩
theorem ChOk.keepr : ∀ {c : C} {v : V}, ChOk K H c v → (∀ a ∈ c.fp, ∀ u, H a = some u → [NT u] → H' a = some u) → Imr H H' → ChOk K H' c v
  | .no, _, _, _, _ => trivial
  | .d x, _, h, _, i => Rep.imr h i
  | .o q u, _, h, e, i => ⟨h.1, OwnOk.keepr h.2 (fun a ha => e a (by simpa [C.fp] using ha)) i⟩
theorem ChOks.keepr : ∀ {cs : List C} {vs : List V}, ChOks K H cs vs → (∀ a ∈ fps cs, ∀ u, H a = some u → [NT u] → H' a = some u) → Imr H H' → ChOks K H' cs vs
  | [], _, h, _, _ => h
  | c :: cs, _, h, e, i => by
    obtain ⟨v, r, e1, h1, h2⟩ := h
    exact ⟨v, r, e1, ChOk.keepr h1 (fun a ha => e a (by rw [fps]; exact List.mem_append_left _ ha)) i, ChOks.keepr h2 (fun a ha => e a (by rw [fps]; exact List.mem_append_right _ ha)) i⟩
end
theorem OwnOk.keepN {p : Addr} {o : O} (h : OwnOk K H p o) (e : ∀ a ∈ p :: o.fp, ∀ u, H a = some u → [NT u] → H' a = some u) (i : Imm H H') : OwnOk K H' p o := OwnOk.keepr h e i.r
theorem OwnOk.keep {p : Addr} {o : O} (h : OwnOk K H p o) (e : ∀ a ∈ p :: o.fp, ∀ u, H a = some u → H' a = some u) (i : Imm H H') : OwnOk K H' p o := OwnOk.keepr h (fun a ha u z => e a ha u z) i.r
theorem own_mk {i : Nat} {a : Addr} (e : Γ[i]? = some (.ow p o)) (ha : a ∈ p :: o.fp) : own Γ a := ⟨i, _, e, ha⟩
theorem own_p {i : Nat} (e : Γ[i]? = some (.ow p o)) : own Γ p := ⟨i, _, e, List.mem_cons_self⟩
theorem own_el {a : Addr} (h : own Γ a) : ∃ (i : Nat) (p : Addr) (o : O), Γ[i]? = some (.ow p o) ∧ a ∈ p :: o.fp := by
  obtain ⟨i, s, e, ha⟩ := h
  cases s with
  | ow p o => exact ⟨i, p, o, e, ha⟩
  | no => cases ha
  | fz d => cases ha
  | raw v => cases ha
  | bw j => cases ha
theorem RG.one' (h : RG K H σ Γ) {i j : Nat} {p q a : Addr} {o u : O} (e : Γ[i]? = some (.ow p o)) (f : Γ[j]? = some (.ow q u)) (ha : a ∈ p :: o.fp) (hb : a ∈ q :: u.fp) : i = j := h.one i j _ _ a e f ha hb
theorem one_mk (h : ∀ (i j : Nat) (p q : Addr) (o u : O) (a : Addr), Γ[i]? = some (.ow p o) → Γ[j]? = some (.ow q u) → a ∈ p :: o.fp → a ∈ q :: u.fp → i = j) :
    ∀ (i j : Nat) (s t : SV) (a : Addr), Γ[i]? = some s → Γ[j]? = some t → a ∈ ft s → a ∈ ft t → i = j := fun i j s t a e f ha hb => by
  cases s with
  | ow p o =>
    cases t with
    | ow q u => exact h i j p q o u a e f ha hb
    | no => cases hb
    | fz d => cases hb
    | raw v => cases hb
    | bw j => cases hb
  | no => cases ha
  | fz d => cases ha
  | raw v => cases ha
  | bw j => cases ha
theorem RG.there (h : RG K H σ Γ) (q : own Γ p) : H p ≠ none := by
  obtain ⟨i, q, o, e, ha⟩ := own_el q
  exact (h.ow i q o e).2.there p ha
theorem Aft.imm (a : Aft K H Γ H' σ' Γ') (_ : RG K H σ Γ) : Imm H H' := a.im
theorem Aft.refl (h : RG K H σ Γ) : Aft K H Γ H σ Γ := ⟨fun _ _ e _ => e, h, fun _ q => .inl q, Imm.refl _⟩
theorem Aft.gone (a : Aft K H Γ H' σ' Γ') {c : Addr} (q : H' c = none) : own Γ c ∨ H c = none := by
  cases e : H c with
  | none => exact .inr rfl
  | some u =>
    by_cases n : own Γ c
    · exact .inl n
    · by_cases t : ∃ ps, u = .tbl ps
      · obtain ⟨ps, rfl⟩ := t
        obtain ⟨qs, z⟩ := a.im.tb.2 c ps e
        rw [q] at z; cases z
      · have : NT u := ⟨fun ps z => t ⟨ps, z⟩⟩
        have := a.keep c u e n
        rw [q] at this; cases this
theorem Aft.trans (h : RG K H σ Γ) (a : Aft K H Γ H1 σ1 Γ1) (b : Aft K H1 Γ1 H2 σ2 Γ2) : Aft K H Γ H2 σ2 Γ2 := by
  refine ⟨fun c u e n => b.keep c u (a.keep c u e n) fun q => ?_, b.rg, fun c q => ?_, a.im.trans b.im⟩
  · rcases a.sh c q with q | q
    · exact n q
    · rw [e] at q; cases q
  · rcases b.sh c q with q | q
    · exact a.sh c q
    · exact a.gone q
/-- fresh for the first, fresh for the second -/
theorem Aft.fresh (a : Aft K H Γ H1 σ1 Γ1) (h : own Γ1 p ∨ H1 p = none) : own Γ p ∨ H p = none := by
  rcases h with q | q
  · exact a.sh p q
  · exact a.gone q
/-- a value that was given ahead of more code -/
theorem Res.later (h : RG K H σ Γ) (a1 : RG K H1 σ Γ1) (a : Aft K H1 Γ1 H2 σ Γ2) (q : Res K H σ Γ H1 Γ1 v r) : Res K H σ Γ H2 Γ2 v r := by
  cases r with
  | no => trivial
  | fz d => exact Rep.imm q (a.imm a1)
  | ow p o =>
    obtain ⟨e, w, n, f⟩ := q
    refine ⟨e, w.keepN (fun c hc u z => a.keep c u z (n c hc)) (a.imm a1), fun c hc z => ?_, f⟩
    rcases a.sh c z with z | z
    · exact n c hc z
    · exact w.there c hc z
  | raw u => exact q
  | bw i => exact q
/-- a value given by the second piece of code, told of both -/
theorem Res.from (a : Aft K H Γ H1 σ1 Γ1) (q : Res K H1 σ Γ1 H2 Γ2 v r) : Res K H σ Γ H2 Γ2 v r := by
  cases r with
  | no => trivial
  | fz d => exact q
  | ow p o =>
    obtain ⟨e, w, n, f⟩ := q
    exact ⟨e, w, n, fun c hc => a.fresh (f c hc)⟩
  | raw u => exact q
  | bw i => exact q
/-- a new object -/
theorem fresh1 {u : O} (hu : u.fp = []) (n : H p = none) : ∀ a ∈ p :: u.fp, own Γ a ∨ H a = none := fun a ha => by
  rw [hu] at ha
  rw [List.mem_singleton.mp ha]; exact .inr n
theorem fp1 {u : O} {P : Addr → Prop} (hu : u.fp = []) (h : P p) : ∀ a ∈ p :: u.fp, P a := fun a ha => by
  rw [hu] at ha
  rw [List.mem_singleton.mp ha]; exact h
end

/-! ### readings over slots -/
abbrev TD := G → (SV → G → Prop) → Prop
theorem RG.tbm {K : PySem.W.Frag} {H H' : Hp} {σ : Sl} {Γ : G} (g : RG K H σ Γ) (im : Imm H H') : ∀ P, LawTab K P → LamX.TabS H' P lamq := fun P h => im.tb.1 P (g.tb P h)
def lift (K : PySem.W.Frag) (t : TD) : TE := fun σ H Q => ∃ Γ, RG K H σ Γ ∧ t Γ fun r Γ' => ∀ v H', Aft K H Γ H' σ Γ' → Res K H σ Γ H' Γ' v r → Q v H'
def Mono (t : TD) : Prop := ∀ Γ (Q Q' : SV → G → Prop), (∀ r Γ', Q r Γ' → Q' r Γ') → t Γ Q → t Γ Q'
structure PD (X : Cx) (e : Expr) (t : TD) : Prop where
  run : PE X e (lift X.K t)
  mono : Mono t
theorem PE.imp {X : Cx} {e : Expr} {t t' : TE} (h : PE X e t) (hi : ∀ σ H Q, t' σ H Q → t σ H Q) : PE X e t' := ⟨fun pins s σ H Q I q => h.run pins s σ H Q I (hi _ _ _ q)⟩
/-- tests -/
abbrev TB := G → (Bool → G → Prop) → Prop
def liftB (K : PySem.W.Frag) (t : TB) : TT := fun σ H Q => ∃ Γ, RG K H σ Γ ∧ t Γ fun b Γ' => ∀ H', Aft K H Γ H' σ Γ' → Q b H'
def MonoB (t : TB) : Prop := ∀ Γ (Q Q' : Bool → G → Prop), (∀ b Γ', Q b Γ' → Q' b Γ') → t Γ Q → t Γ Q'
structure PB (X : Cx) (e : Expr) (t : TB) : Prop where
  run : PT X e (liftB X.K t)
  mono : MonoB t
/-- arguments -/
abbrev TAD := G → (List SV → G → Prop) → Prop
def Ress (K : PySem.W.Frag) (H : Hp) (σ : Sl) (Γ : G) (H' : Hp) (Γ' : G) : List SV → List V → Prop
  | [], vs => vs = []
  | r :: rs, vs => ∃ v w, vs = v :: w ∧ Res K H σ Γ H' Γ' v r ∧ Ress K H σ Γ H' Γ' rs w
def liftA (K : PySem.W.Frag) (t : TAD) : TA := fun σ H Q => ∃ Γ, RG K H σ Γ ∧ t Γ fun rs Γ' => ∀ vs H', Aft K H Γ H' σ Γ' → Ress K H σ Γ H' Γ' rs vs → Q vs H'
def MonoA (t : TAD) : Prop := ∀ Γ (Q Q' : List SV → G → Prop), (∀ r Γ', Q r Γ' → Q' r Γ') → t Γ Q → t Γ Q'
structure PAD (X : Cx) (es : List Expr) (t : TAD) : Prop where
  run : PA X es (liftA X.K t)
  mono : MonoA t
  len : ∀ Γ Q, t Γ Q → t Γ fun rs Γ' => rs.length = es.length ∧ Q rs Γ'
/-- an exception of one's own: its class's name, its fields -/
structure XD where
  cls : Str
  fs : List (Str × D)
def XOk (K : PySem.W.Frag) (H : Hp) (x : XD) (c : Value) (d : Option Addr) : Prop :=
  PySem.W.nsIn K mainGlobals x.cls = some (some c) ∧ ((x.fs = [] ∧ d = none) ∨ ∃ a vs, d = some a ∧ H a = some (.xd vs) ∧ PRep K H id x.fs vs)
/-- statements -/
structure EndD where
  nx : G → Prop
  rt : SV → G → Prop
  bk : G → Prop := fun _ => False
  ct : G → Prop := fun _ => False
  xt : XD → G → Prop := fun _ _ => False
abbrev TSD := EndD → G → Prop
/-- what an exception is to bring about, told over slots -/
def liftX (K : PySem.W.Frag) (W : WX) (Γ : G) (H : Hp) : XD → G → Prop := fun x Γ' => ∀ c d σ' H', Aft K H Γ H' σ' Γ' → XOk K H' x c d → W c d σ' H'
def liftD (K : PySem.W.Frag) (W : WX) (Γ : G) (H : Hp) (D : Ends) : EndD where
  nx := fun Γ' => ∀ σ' H', Aft K H Γ H' σ' Γ' → D.nx σ' H'
  rt := fun r Γ' => ∀ v σ' H', Aft K H Γ H' σ' Γ' → Res K H σ' Γ H' Γ' v r → D.rt v H'
  bk := fun Γ' => ∀ σ' H', Aft K H Γ H' σ' Γ' → D.bk σ' H'
  ct := fun Γ' => ∀ σ' H', Aft K H Γ H' σ' Γ' → D.ct σ' H'
  xt := liftX K W Γ H
def liftS (K : PySem.W.Frag) (W : WX) (t : TSD) : TS := fun D σ H => ∃ Γ, RG K H σ Γ ∧ t (liftD K W Γ H D) Γ
structure EndD.Le (D D' : EndD) : Prop where
  nx : ∀ Γ, D.nx Γ → D'.nx Γ
  rt : ∀ r Γ, D.rt r Γ → D'.rt r Γ
  bk : ∀ Γ, D.bk Γ → D'.bk Γ
  ct : ∀ Γ, D.ct Γ → D'.ct Γ
  xt : ∀ x Γ, D.xt x Γ → D'.xt x Γ := by exact fun _ _ z => z
def MonoS (t : TSD) : Prop := ∀ (D D' : EndD) Γ, D.Le D' → t D Γ → t D' Γ
structure PDS (X : Cx) (st : Stmt) (t : TSD) : Prop where
  run : ∀ W, Takes X W → PS X st (liftS X.K W t)
  mono : MonoS t
structure PDSs (X : Cx) (st : List Stmt) (t : TSD) : Prop where
  run : ∀ W, Takes X W → PSs X st (liftS X.K W t)
  mono : MonoS t
theorem PS.imp {X : Cx} {st : Stmt} {t t' : TS} (h : PS X st t) (hi : ∀ D σ H, t' D σ H → t D σ H) : PS X st t' := ⟨fun pins s σ H D I q => h.run pins s σ H D I (hi _ _ _ q)⟩
theorem PSs.imp {X : Cx} {st : List Stmt} {t t' : TS} (h : PSs X st t) (hi : ∀ D σ H, t' D σ H → t D σ H) : PSs X st t' := ⟨fun pins s σ H D I q => h.run pins s σ H D I (hi _ _ _ q)⟩
theorem PT.imp {X : Cx} {e : Expr} {t t' : TT} (h : PT X e t) (hi : ∀ σ H Q, t' σ H Q → t σ H Q) : PT X e t' := ⟨fun pins s σ H Q I q => h.run pins s σ H Q I (hi _ _ _ q)⟩
theorem PA.imp {X : Cx} {e : List Expr} {t t' : TA} (h : PA X e t) (hi : ∀ σ H Q, t' σ H Q → t σ H Q) : PA X e t' := ⟨fun pos pins s σ H Q I q => h.run pos pins s σ H Q I (hi _ _ _ q)⟩

end DL
/-! DL1: data as the library reads it; operators, calls of built-ins, displays, names. -/
namespace DL
open PySem PySem.Spec PyProof.Rows L2

/-! ### reads -/
section
variable {X : Cx} {pins : List (Addr × Obj)} {σ : Sl} {H : Hp} {s : Shared}
theorem ints_reads (h : Heap) : ∀ (ns : List Int) {us : List Value}, Vals (ns.map V.int) us → ∃ as, ReadsAll h us (ns.map PyData.int) as
  | [], _, r => by
    cases r
    exact ⟨_, .nil⟩
  | n :: ns, _, r => by
    cases r with
    | cons r1 r2 =>
      obtain ⟨t, rfl⟩ := r1
      obtain ⟨bs, q⟩ := ints_reads h ns r2
      exact ⟨_, .cons (.int n t) q⟩
theorem key_reads (I : Inv X pins σ H s) {ks : List Int} {b : Addr} (hb : H b = some (.tup ((ks.map Sum.inl).map kV))) : ∃ as, Reads s.heap (.ref b) (.tuple (ks.map PyData.int)) as := by
  rw [List.map_map] at hb
  obtain ⟨its, rv, ⟨o, e1, e2, n, e3⟩, _⟩ := I.tuple (.inl (.inl hb))
  obtain ⟨as, q⟩ := ints_reads s.heap ks rv
  exact ⟨_, .tuple e1 e2 e3 (by simpa using q)⟩
theorem keys_reads (I : Inv X pins σ H s) : ∀ {ps : List (D × D)} {vs : List (List Key × V)} {xs : List (List Key × Addr × Value)}, RepD X.K H ps vs → Paired (fun (p : List Key × V) (q : List Key × Addr × Value) => p.1 = q.1 ∧ H q.2.1 = some (.tup (p.1.map kV)) ∧ RelV p.2 q.2.2) vs xs →
    ∃ as, ReadsAll s.heap (xs.map fun x => Value.ref x.2.1) (ps.map (·.1)) as
  | [], _, _, h, r => by
    cases (show _ = ([] : List (List Key × V)) from h)
    cases r
    exact ⟨_, .nil⟩
  | (k, d) :: ps, _, _, h, r => by
    obtain ⟨kv, r', rfl, ⟨⟨ks, rfl, e⟩, _⟩, h2⟩ := h
    cases r with
    | cons r1 r2 =>
      obtain ⟨as, q1⟩ := key_reads I (ks := ks) (by rw [← e]; exact r1.2.1)
      obtain ⟨bs, q2⟩ := keys_reads I h2 r2
      exact ⟨_, .cons q1 q2⟩
theorem vals_of_pairs {vs : List (List Key × V)} {xs : List (List Key × Addr × Value)} (h : Paired (fun (p : List Key × V) (q : List Key × Addr × Value) => p.1 = q.1 ∧ H q.2.1 = some (.tup (p.1.map kV)) ∧ RelV p.2 q.2.2) vs xs) : Vals (vs.map (·.2)) (xs.map fun x => x.2.2) := by
  induction h with
  | nil => exact .nil
  | cons r _ ih => exact .cons r.2.2 ih
mutual
theorem rep_reads (I : Inv X pins σ H s) : ∀ {d : D} {v : V} {u : Value}, Rep X.K H d v → RelV v u → ∃ as, Reads s.heap u d as
  | .none, _, _, h, r => by
    cases (show _ = V.non from h)
    cases r
    exact ⟨_, .none⟩
  | .bool b, _, _, h, r => by
    cases (show _ = V.bl b from h)
    cases r
    exact ⟨_, .bool b⟩
  | .int i, _, _, h, r => by
    cases (show _ = V.int i from h)
    obtain ⟨t, rfl⟩ := r
    exact ⟨_, .int i t⟩
  | .str x, _, _, h, r => by
    cases (show _ = V.str x from h.1)
    obtain ⟨t, rfl⟩ := r
    exact ⟨_, .str x t⟩
  | .tuple ds, _, _, h, r => by
    obtain ⟨a, vs, rfl, h1, h2⟩ := h
    cases r
    obtain ⟨its, rv, ⟨o, e1, e2, n, e3⟩, _⟩ := I.tuple h1.sq
    obtain ⟨as, q⟩ := reps_reads I h2 rv
    exact ⟨_, .tuple e1 e2 e3 (by simpa using q)⟩
  | .list ds, _, _, h, r => by
    obtain ⟨a, vs, rfl, h1, h2⟩ := h
    cases r
    obtain ⟨its, rv, ⟨o, n, e1, e2, _, e3⟩, _⟩ := I.list h1.sq
    obtain ⟨as, q⟩ := reps_reads I h2 rv
    exact ⟨_, .list e1 e2 e3 (by simpa using q)⟩
  | .dict ps, _, _, h, r => by
    obtain ⟨a, o, vs, rfl, h1, h2⟩ := h
    cases r
    obtain ⟨hg, _, _, _, xs, pr, o', es, ep, ho, hx, hdt, he, _⟩ := I.hok a _ h1
    obtain ⟨as, q1⟩ := keys_reads I h2 pr
    obtain ⟨bs, q2⟩ := repD_reads I h2 (vals_of_pairs pr)
    exact ⟨_, .dict ho hx.1 hdt (by rw [he, List.map_map]; exact q1) (by rw [he, List.map_map]; exact q2)⟩
theorem reps_reads (I : Inv X pins σ H s) : ∀ {ds : List D} {vs : List V} {us : List Value}, Reps X.K H ds vs → Vals vs us → ∃ as, ReadsAll s.heap us ds as
  | [], _, _, h, r => by
    cases (show _ = ([] : List V) from h)
    cases r
    exact ⟨_, .nil⟩
  | d :: ds, _, _, h, r => by
    obtain ⟨v, w, rfl, h1, h2⟩ := h
    cases r with
    | cons r1 r2 =>
      obtain ⟨as, q1⟩ := rep_reads I h1 r1
      obtain ⟨bs, q2⟩ := reps_reads I h2 r2
      exact ⟨_, .cons q1 q2⟩
theorem repD_reads (I : Inv X pins σ H s) : ∀ {ps : List (D × D)} {vs : List (List Key × V)} {us : List Value}, RepD X.K H ps vs → Vals (vs.map (·.2)) us → ∃ as, ReadsAll s.heap us (ps.map (·.2)) as
  | [], _, _, h, r => by
    cases (show _ = ([] : List (List Key × V)) from h)
    cases r
    exact ⟨_, .nil⟩
  | p :: ps, _, _, h, r => by
    obtain ⟨kv, r', rfl, h1, h2⟩ := h
    cases r with
    | cons r1 r2 =>
      obtain ⟨as, q1⟩ := repP_reads I h1 r1
      obtain ⟨bs, q2⟩ := repD_reads I h2 r2
      exact ⟨_, .cons q1 q2⟩
theorem repP_reads (I : Inv X pins σ H s) : ∀ {p : D × D} {kv : List Key × V} {u : Value}, RepP X.K H p kv → RelV kv.2 u → ∃ as, Reads s.heap u p.2 as
  | (k, d), _, _, h, r => rep_reads I h.2 r
end
end
mutual
/-- no dict in it -/
def noD : D → Bool
  | .tuple ds => noDs ds
  | .list ds => noDs ds
  | .dict _ => false
  | _ => true
def noDs : List D → Bool
  | [] => true
  | d :: ds => noD d && noDs ds
end
mutual
theorem Rep.lay {K : PySem.W.Frag} {H : Hp} : ∀ {d : D} {v : V}, Rep K H d v → noD d = true → d.canLay0 = true
  | .none, _, _, _ => by simp [PyData.canLay0]
  | .bool b, _, _, _ => by simp [PyData.canLay0]
  | .int i, _, _, _ => by simp [PyData.canLay0]
  | .str x, _, h, _ => by simpa [PyData.canLay0] using h.2
  | .tuple ds, _, h, n => by
    obtain ⟨a, vs, rfl, h1, h2⟩ := h
    simpa [PyData.canLay0] using Reps.lay h2 (by simpa [noD] using n)
  | .list ds, _, h, n => by
    obtain ⟨a, vs, rfl, h1, h2⟩ := h
    simpa [PyData.canLay0] using Reps.lay h2 (by simpa [noD] using n)
  | .dict _, _, _, n => by simp [noD] at n
theorem Reps.lay {K : PySem.W.Frag} {H : Hp} : ∀ {ds : List D} {vs : List V}, Reps K H ds vs → noDs ds = true → PyData.canLayAll0 ds = true
  | [], _, _, _ => by simp [PyData.canLayAll0]
  | d :: ds, _, h, n => by
    obtain ⟨v, w, rfl, h1, h2⟩ := h
    have n : noD d = true ∧ noDs ds = true := by simpa [noDs] using n
    simp [PyData.canLayAll0, Rep.lay h1 n.1, Reps.lay h2 n.2]
end
/-- as it is now: a list may change later -/
def RepN (K : PySem.W.Frag) (H : Hp) (d : D) (v : V) : Prop := (∃ ds a vs, d = .list ds ∧ v = .ref a ∧ Rd H a (.lst vs) ∧ Reps K H ds vs) ∨ Rep K H d v
theorem RepN.lay {K : PySem.W.Frag} {H : Hp} {d : D} {v : V} (h : RepN K H d v) (n : noD d = true) : d.canLay0 = true := by
  rcases h with ⟨ds, a, vs, rfl, rfl, _, h⟩ | h
  · simpa [PyData.canLay0] using h.lay (by simpa [noD] using n)
  · exact h.lay n
theorem RepN.list {K : PySem.W.Frag} {H : Hp} {ds : List D} {v : V} (h : RepN K H (.list ds) v) : ∃ a vs, v = .ref a ∧ SqL K H a vs ∧ Reps K H ds vs := by
  rcases h with ⟨ds', a, vs, e, rfl, q, h⟩ | ⟨a, vs, e, q, h⟩
  · cases e; exact ⟨a, vs, rfl, .inl q, h⟩
  · exact ⟨a, vs, e, q.sq, h⟩
theorem RepN.tuple {K : PySem.W.Frag} {H : Hp} {ds : List D} {v : V} (h : RepN K H (.tuple ds) v) : ∃ a vs, v = .ref a ∧ StT K H a vs ∧ Reps K H ds vs := by
  rcases h with ⟨ds', a, vs, e, rfl, q, h⟩ | ⟨a, vs, e, q, h⟩
  · cases e
  · exact ⟨a, vs, e, q, h⟩
theorem RepN.int {K : PySem.W.Frag} {H : Hp} {i : Int} {v : V} (h : RepN K H (.int i) v) : v = .int i := by
  rcases h with ⟨ds', a, vs, e, rfl, q, h⟩ | h
  · cases e
  · exact h
theorem RepN.bool {K : PySem.W.Frag} {H : Hp} {i : Bool} {v : V} (h : RepN K H (.bool i) v) : v = .bl i := by
  rcases h with ⟨ds', a, vs, e, rfl, q, h⟩ | h
  · cases e
  · exact h
theorem RepN.none {K : PySem.W.Frag} {H : Hp} {v : V} (h : RepN K H .none v) : v = .non := by
  rcases h with ⟨ds', a, vs, e, rfl, q, h⟩ | h
  · cases e
  · exact h
theorem RepN.str {K : PySem.W.Frag} {H : Hp} {i : Str} {v : V} (h : RepN K H (.str i) v) : v = .str i ∧ PyData.strOk i = true := by
  rcases h with ⟨ds', a, vs, e, rfl, q, h⟩ | h
  · cases e
  · exact h
theorem RepN.reads {X : Cx} {pins : List (Addr × Obj)} {σ : Sl} {H : Hp} {s : Shared} (I : Inv X pins σ H s) {d : D} {v : V} {u : Value} (h : RepN X.K H d v) (r : RelV v u) : ∃ as, Reads s.heap u d as := by
  rcases h with ⟨ds, a, vs, rfl, rfl, h1, h2⟩ | h
  · cases r
    obtain ⟨its, rv, ⟨o, n, e1, e2, _, e3⟩, _⟩ := I.list (.inl h1)
    obtain ⟨as, q⟩ := reps_reads I h2 rv
    exact ⟨_, .list e1 e2 e3 (by simpa using q)⟩
  · exact rep_reads I h r
/-- the data that stand in a value now -/
def dat (Γ : G) : SV → (D → Prop) → Prop
  | .fz d, k => k d
  | .ow _ (.lst ds), k => k (.list ds)
  | .bw i, k => match Γ[i]? with
    | some (.ow _ (.lst ds)) => k (.list ds)
    | some (.fz d) => k d
    | _ => False
  | _, _ => False
theorem dat_mono {Γ : G} {r : SV} {k k' : D → Prop} (h : ∀ d, k d → k' d) (q : dat Γ r k) : dat Γ r k' := by
  unfold dat at q ⊢
  split at q <;> first | exact h _ q | (split at q <;> first | exact h _ q | exact q) | exact q
theorem dat_ok {K : PySem.W.Frag} {H H0 : Hp} {σ : Sl} {Γ Γ0 : G} {r : SV} {v : V} {k : D → Prop} (g : RG K H σ Γ) (q : Res K H0 σ Γ0 H Γ v r) (h : dat Γ r k) : ∃ d, RepN K H d v ∧ k d := by
  unfold dat at h
  split at h
  · exact ⟨_, .inr q, h⟩
  · obtain ⟨rfl, ⟨vs, e, rs⟩, _, _⟩ := q
    exact ⟨_, .inl ⟨_, _, vs, rfl, rfl, .of e, rs⟩, h⟩
  · split at h
    · rename_i e
      obtain ⟨e1, vs, e2, rs⟩ := g.ow _ _ _ e
      have e3 := (show σ[_]? = some (some v) from q).symm.trans e1
      cases e3
      exact ⟨_, .inl ⟨_, _, vs, rfl, rfl, .of e2, rs⟩, h⟩
    · rename_i e
      obtain ⟨u, e1, rs⟩ := g.fz _ _ e
      have e3 := (show σ[_]? = some (some v) from q).symm.trans e1
      cases e3
      exact ⟨_, .inr rs, h⟩
    · exact h.elim
  · exact h.elim

/-! ### what grows alone -/
theorem RG.imm {K : PySem.W.Frag} {H H' : Hp} {σ : Sl} {Γ : G} (g : RG K H σ Γ) (e : Same H H') : RG K H' σ Γ := by
  have i : Imm H H' := ⟨fun a u h _ => e a u h, .same e⟩
  refine ⟨g.len, fun j d q => ?_, fun j p o q => ?_, g.raw, g.one, g.tbm i⟩
  · obtain ⟨v, h1, h2⟩ := g.fz j d q
    exact ⟨v, h1, h2.imm i⟩
  · obtain ⟨h1, h2⟩ := g.ow j p o q
    exact ⟨h1, h2.keep (fun _ _ u z => e _ _ z) i⟩
theorem Aft.same {K : PySem.W.Frag} {H H' : Hp} {σ : Sl} {Γ : G} (g : RG K H σ Γ) (e : Same H H') : Aft K H Γ H' σ Γ := ⟨fun a u h _ => e a u h, g.imm e, fun _ q => .inl q, fun a u h _ => e a u h, .same e⟩
/-- what an operation gives: data, or a new object -/
inductive R where
  | dat (d : D)
  | new (o : O)
def RRes (K : PySem.W.Frag) (H H' : Hp) (w : V) : R → Prop
  | .dat d => Rep K H' d w
  | .new o => o.fp = [] ∧ ∃ p, w = .ref p ∧ H p = none ∧ OwnOk K H' p o
def rq (Γ : G) (Q : SV → G → Prop) : R → Prop
  | .dat d => Q (.fz d) Γ
  | .new o => ∀ p, Q (.ow p o) Γ
theorem rq_mono {Γ : G} {Q Q' : SV → G → Prop} (h : ∀ r Γ', Q r Γ' → Q' r Γ') {z : R} (q : rq Γ Q z) : rq Γ Q' z := by
  cases z with
  | dat d => exact h _ _ q
  | new o => exact fun p => h _ _ (q p)
theorem rq_ok {K : PySem.W.Frag} {H H1 H2 : Hp} {σ : Sl} {Γ Γ1 : G} {Q : VK} (g0 : RG K H σ Γ) (a : Aft K H Γ H1 σ Γ1) {z : R}
    (h : rq Γ1 (fun r Γ' => ∀ v H', Aft K H Γ H' σ Γ' → Res K H σ Γ H' Γ' v r → Q v H') z) {w : V} (e : Same H1 H2) (q : RRes K H1 H2 w z) : Q w H2 := by
  have a2 := a.trans g0 (Aft.same a.rg e)
  cases z with
  | dat d => exact h w H2 a2 q
  | new o =>
    obtain ⟨hf, p, rfl, n, ok⟩ := q
    refine h p (.ref p) H2 a2 ⟨rfl, ok, fp1 hf fun z => a.rg.there z n, fp1 hf (a.fresh (.inr n))⟩

/-! ### two ways -/
/-- by a truth value (a structure: an evaluation stops here) -/
structure Br (k : Bool) (A B : Prop) : Prop where
  yes : k = true → A
  no : k = false → B
theorem br_iff {k : Bool} {A B : Prop} : Br k A B = if k = true then A else B := by
  apply propext
  cases k with
  | true => exact ⟨fun h => h.yes rfl, fun h => ⟨fun _ => h, fun z => (by cases z)⟩⟩
  | false => exact ⟨fun h => h.no rfl, fun h => ⟨fun z => (by cases z), fun _ => h⟩⟩
theorem Br.t {A B : Prop} (h : A) : Br true A B := ⟨fun _ => h, fun z => (by cases z)⟩
theorem Br.f {A B : Prop} (h : B) : Br false A B := ⟨fun z => (by cases z), fun _ => h⟩
/-! ### operators -/
abbrev G2 := D → D → (R → Prop) → Prop
structure OpD (X : Cx) (f : Value → Value → Sem Value) (g : G2) : Prop where
  ok : ∃ r : R2, OpR X f r ∧ ∀ (H : Hp) (d e : D) (v u : V) (Q : VK), RepN X.K H d v → RepN X.K H e u → g d e (fun z => ∀ w H', Same H H' → RRes X.K H H' w z → Q w H') → r v u H Q
  mono : ∀ d e (k k' : R → Prop), (∀ z, k z → k' z) → g d e k → g d e k'
def td2 (g : G2) (ta tb : TD) : TD := fun Γ Q => ta Γ fun x Γ1 => tb Γ1 fun y Γ2 => dat Γ2 x fun d => dat Γ2 y fun e => g d e (rq Γ2 Q)
theorem td2_mono {X : Cx} {f : Value → Value → Sem Value} {g : G2} (h : OpD X f g) {ta tb : TD} (ma : Mono ta) (mb : Mono tb) : Mono (td2 g ta tb) := fun Γ Q Q' hq =>
  ma _ _ _ fun x Γ1 => mb _ _ _ fun y Γ2 => dat_mono fun d => dat_mono fun e => h.mono d e _ _ fun z => rq_mono hq
theorem td2_ok {X : Cx} {f : Value → Value → Sem Value} {g : G2} (h : OpD X f g) {r : R2}
    (hr : ∀ (H : Hp) (d e : D) (v u : V) (Q : VK), RepN X.K H d v → RepN X.K H e u → g d e (fun z => ∀ w H', Same H H' → RRes X.K H H' w z → Q w H') → r v u H Q) {ta tb : TD} (ma : Mono ta) (mb : Mono tb) {σ : Sl} {H : Hp} {Q : VK} (q : lift X.K (td2 g ta tb) σ H Q) :
    tOp r (lift X.K ta) (lift X.K tb) σ H Q := by
  obtain ⟨Γ, g0, q⟩ := q
  refine ⟨Γ, g0, ma _ _ _ (fun x Γ1 q1 => ?_) q⟩
  intro v H1 a1 r1
  refine ⟨Γ1, a1.rg, mb _ _ _ (fun y Γ2 q2 => ?_) q1⟩
  intro u H2 a2 r2
  have a12 := a1.trans g0 a2
  obtain ⟨d, nd, q2⟩ := dat_ok a2.rg (r1.later g0 a1.rg a2) q2
  obtain ⟨e, ne, q2⟩ := dat_ok a2.rg r2 q2
  refine hr H2 d e v u Q nd ne (h.mono _ _ _ _ (fun z qz => ?_) q2)
  intro w H' sm rr
  exact rq_ok g0 a12 qz sm rr
section
variable {X : Cx} {a b c : Expr} {ta tb tc : TD} {pos : Pos} {g : G2}
theorem pd_op {op : Operator} (h : OpD X (binaryOp op) g) (ha : PD X a ta) (hb : PD X b tb) : PD X (.BinOp a op b pos) (td2 g ta tb) := by
  obtain ⟨r, ho, hr⟩ := h.ok
  exact ⟨PE.imp (pe_op ho ha.run hb.run) fun σ H Q q => td2_ok h hr ha.mono hb.mono q, td2_mono h ha.mono hb.mono⟩
theorem pd_cmp {op : CmpOp} (h : OpD X (compareOp op) g) (ha : PD X a ta) (hb : PD X b tb) (hm : behindInMarks op b = false := by first | rfl | exact nomark _) : PD X (.Compare a [op] [b] pos) (td2 g ta tb) := by
  obtain ⟨r, ho, hr⟩ := h.ok
  exact ⟨PE.imp (pe_cmpR ho ha.run hb.run hm) fun σ H Q q => td2_ok h hr ha.mono hb.mono q, td2_mono h ha.mono hb.mono⟩
/-- a bool's value as a test -/
def tdB (t : TD) : TB := fun Γ Q => t Γ fun r Γ' => match r with | .fz (.bool k) => Q k Γ' | _ => False
theorem tdB_mono {t : TD} (m : Mono t) : MonoB (tdB t) := fun Γ Q Q' h => m _ _ _ fun r Γ' q => by
  split at q
  · exact h _ _ q
  · exact q
theorem tdB_ok {K : PySem.W.Frag} {t : TD} (m : Mono t) {σ : Sl} {H : Hp} {Q : Bool → Hp → Prop} (q : liftB K (tdB t) σ H Q) : tTest (lift K t) σ H Q := by
  obtain ⟨Γ, g0, q⟩ := q
  refine ⟨Γ, g0, m _ _ _ (fun r Γ' q => ?_) q⟩
  intro v H' a rs
  split at q
  · exact ⟨_, rs, q H' a⟩
  · exact q.elim
theorem tTest_imp {t t' : TE} (hi : ∀ σ H Q, t' σ H Q → t σ H Q) {σ : Sl} {H : Hp} {Q : Bool → Hp → Prop} (q : tTest t' σ H Q) : tTest t σ H Q := hi _ _ _ q
theorem pb_cmp {op : CmpOp} (h : OpD X (compareOp op) g) (ha : PD X a ta) (hb : PD X b tb) (hm : behindInMarks op b = false := by first | rfl | exact nomark _) : PB X (.Compare a [op] [b] pos) (tdB (td2 g ta tb)) := by
  obtain ⟨r, ho, hr⟩ := h.ok
  exact ⟨PT.imp (pt_cmpR ho ha.run hb.run hm) fun σ H Q q => tTest_imp (fun _ _ _ => td2_ok h hr ha.mono hb.mono) (tdB_ok (td2_mono h ha.mono hb.mono) q), tdB_mono (td2_mono h ha.mono hb.mono)⟩
/-- an expression that gives a bool, as a test -/
theorem pb_val {e : Expr} {t : TD} (h : PD X e t) (he : ∀ whole, isTrue e X.env whole = (do let v ← whole; standAt e.pos; holding [v] (truthy v)) := by intro _; rfl) : PB X e (tdB t) :=
  ⟨PT.imp (pt_val h.run he) fun σ H Q q => tdB_ok h.mono q, tdB_mono h.mono⟩
end
end DL
/-! DL2: the operators one by one; names, constants, and, or, not, if; displays; subscripts; slices; calls of built-ins. -/
namespace DL
open PySem PySem.Spec PyProof.Rows L2

/-! ### operators -/
theorem same_refl (H : Hp) : Same H H := fun _ _ z => z
theorem same_upd {H : Hp} {p : Addr} {o : HO} (h : H p = none) : Same H (upd H p o) := fun b x e => by
  rw [upd_ne (ne_of_none e h)]
  exact e
theorem imm_same {H H' : Hp} (h : Same H H') : Imm H H' := ⟨fun a u e _ => h a u e, .same h⟩
def gI2 (C : Int → Int → Prop) (f : Int → Int → D) : G2 := fun d e k => match d, e with
  | .int i, .int j => C i j ∧ k (.dat (f i j))
  | _, _ => False
theorem gI2_mono {C : Int → Int → Prop} {f : Int → Int → D} : ∀ d e (k k' : R → Prop), (∀ z, k z → k' z) → gI2 C f d e k → gI2 C f d e k' := fun d e k k' h q => by
  unfold gI2 at q ⊢
  split at q
  · exact ⟨q.1, h _ q.2⟩
  · exact q
theorem opd_int {X : Cx} {f : Value → Value → Sem Value} {C : Int → Int → Prop} {g : Int → Int → V} {g' : Int → Int → D} (h : OpR X f (rI C g)) (hg : ∀ i j, ∀ H, Rep X.K H (g' i j) (g i j)) : OpD X f (gI2 C g') := by
  refine ⟨⟨_, h, fun H d e v u Q nd ne q => ?_⟩, gI2_mono⟩
  unfold gI2 at q
  split at q
  · rw [nd.int, ne.int]
    exact ⟨_, _, rfl, rfl, q.1, q.2 _ H (same_refl H) (hg _ _ _)⟩
  · exact q.elim
theorem rI0_rI {X : Cx} {f : Value → Value → Sem Value} {C : Int → Int → Prop} {g : Int → Int → V} (h : OpR X f (rI0 g)) : OpR X f (rI C g) := fun pins s σ H x y v u Q I r1 r2 ⟨i, j, e1, e2, _, q⟩ => h pins s σ H x y v u Q I r1 r2 ⟨i, j, e1, e2, q⟩
abbrev T2 : Int → Int → Prop := fun _ _ => True
abbrev gSub : G2 := gI2 T2 fun i j => .int (i - j)
abbrev gMod : G2 := gI2 (fun _ j => 0 < j) fun i j => .int (i % j)
abbrev gDiv : G2 := gI2 CDiv fun i j => .int (i / j)
abbrev gPow : G2 := gI2 CPow fun i j => .int (i ^ j.toNat)
abbrev gLt : G2 := gI2 T2 fun i j => .bool (decide (i < j))
abbrev gLe : G2 := gI2 T2 fun i j => .bool (decide (i ≤ j))
abbrev gGt : G2 := gI2 T2 fun i j => .bool (decide (j < i))
abbrev gGe : G2 := gI2 T2 fun i j => .bool (decide (j ≤ i))
section
variable {X : Cx}
theorem od_sub : OpD X (binaryOp .Sub) gSub := opd_int (rI0_rI op_sub) fun _ _ _ => rfl
/-- a text some times -/
def repS (x : Str) (n : Nat) : Str := ⟨(List.replicate n x.cps.toList).flatten.toArray⟩
theorem rep_fold : ∀ (n : Nat) (a : Array Nat) (acc : Array Nat), (List.replicate n a).foldl (· ++ ·) acc = acc ++ (List.replicate n a.toList).flatten.toArray
  | 0, _, acc => by simp
  | n + 1, a, acc => by
    rw [List.replicate_succ, List.foldl_cons, rep_fold n a (acc ++ a), List.replicate_succ, List.flatten_cons]
    apply Array.toList_inj.mp
    simp
theorem repS_len (x : Str) (n : Nat) : (repS x n).length = n * x.length := by
  show ((List.replicate n x.cps.toList).flatten.toArray).size = n * x.cps.size
  rw [List.size_toArray, List.length_flatten, List.map_replicate, List.sum_replicate_nat, Array.length_toList]
def rMulS : R2 := fun x y H Q => ∃ z n, x = .str z ∧ y = .int n ∧ (1 ≤ z.length ∧ z.length ≤ 1000 ∧ 2 ≤ n ∧ n ≤ 1000) ∧ Q (.str (repS z n.toNat)) H
theorem op_mulS : OpR X (binaryOp .Mult) rMulS := by
  intro pins s σ H x y v u Q I rx ry h
  obtain ⟨z, n, rfl, rfl, ⟨h1, h2, h3, h4⟩, q⟩ := h
  obtain ⟨t, rfl⟩ := rx
  obtain ⟨t', rfl⟩ := ry
  have hm : z.length * n.toNat ≤ 1000 * 1000 := Nat.mul_le_mul h2 (by omega)
  have hs : z.length * n.toNat ≤ sizeLine := Nat.le_trans hm (by decide)
  refine PySem.P.mul_str ?_ (fun _ _ => ?_) (fun _ _ => ?_) ?_
  · rw [Bool.or_eq_false_iff, decide_eq_false_iff_not, decide_eq_false_iff_not]
    omega
  · have h5 : (2 ^ 63 - 1 : Int) / n ≥ (2 ^ 63 - 1 : Int) / 1000 := by
      have e1 : n * ((2 ^ 63 - 1 : Int) / 1000) ≤ 1000 * ((2 ^ 63 - 1 : Int) / 1000) := Int.mul_le_mul_of_nonneg_right h4 (by decide)
      exact Int.le_ediv_of_mul_le (by omega) (by rw [Int.mul_comm]; exact Int.le_trans e1 (by decide))
    have h6 : ((2 ^ 63 - 1 : Int) / 1000) ≥ 1000 := by decide
    omega
  · unfold PySem.Builtin.Str.tooLong
    rw [decide_eq_false_iff_not]
    omega
  · rw [if_neg (by omega), if_neg (by simp; omega)]
    have e : (⟨(List.replicate n.toNat z.cps).foldl (· ++ ·) #[]⟩ : Str) = repS z n.toNat := by
      unfold repS
      rw [rep_fold]
      simp
    rw [e]
    refine ⟨?_, ?_⟩
    · rw [repS_len]
      rw [Nat.mul_comm]
      exact hs
    · exact ⟨.str _, H, I.tok _, ⟨_, rfl⟩, q⟩
theorem strOk_rep {z : Str} {n : Nat} (h : PyData.strOk z = true) : PyData.strOk (repS z n) = true := by
  unfold PyData.strOk at h ⊢
  rw [← Array.all_toList, List.all_eq_true] at h ⊢
  intro c hc
  simp only [repS, List.mem_flatten, List.mem_replicate] at hc
  obtain ⟨l, ⟨_, rfl⟩, hc⟩ := hc
  exact h c hc
def gMul : G2 := fun d e k => match d, e with
  | .int i, .int j => CMul i j ∧ k (.dat (.int (i * j)))
  | .str z, .int n => (1 ≤ z.length ∧ z.length ≤ 1000 ∧ 2 ≤ n ∧ n ≤ 1000) ∧ k (.dat (.str (repS z n.toNat)))
  | _, _ => False
theorem od_mul : OpD X (binaryOp .Mult) gMul := by
  refine ⟨⟨_, op_mul.or op_mulS, fun H d e v u Q nd ne q => ?_⟩, fun d e k k' h q => ?_⟩
  · unfold gMul at q
    split at q
    · rw [nd.int, ne.int]
      exact .inl ⟨_, _, rfl, rfl, q.1, q.2 _ H (same_refl H) rfl⟩
    · rw [nd.str.1, ne.int]
      exact .inr ⟨_, _, rfl, rfl, q.1, q.2 _ H (same_refl H) ⟨rfl, strOk_rep nd.str.2⟩⟩
    · exact q.elim
  · unfold gMul at q ⊢
    split at q <;> first | exact ⟨q.1, h _ q.2⟩ | exact q
theorem od_mod : OpD X (binaryOp .Mod) gMod := opd_int op_mod fun _ _ _ => rfl
theorem od_div : OpD X (binaryOp .FloorDiv) gDiv := opd_int op_fdiv fun _ _ _ => rfl
theorem od_pow : OpD X (binaryOp .Pow) gPow := opd_int op_pow fun _ _ _ => rfl
theorem od_lt : OpD X (compareOp .Lt) gLt := opd_int (rI0_rI op_lt) fun _ _ _ => rfl
theorem od_le : OpD X (compareOp .LtE) gLe := opd_int (rI0_rI op_le) fun _ _ _ => rfl
theorem od_gt : OpD X (compareOp .Gt) gGt := opd_int (rI0_rI op_gt) fun _ _ _ => rfl
theorem od_ge : OpD X (compareOp .GtE) gGe := opd_int (rI0_rI op_ge) fun _ _ _ => rfl
/-- l + r of two lists -/
def rCatL (K : PySem.W.Frag) : R2 := fun x y H Q => ∃ l b xs zs, x = .ref l ∧ y = .ref b ∧ SqL K H l xs ∧ SqL K H b zs ∧ xs.length + zs.length ≤ sizeLine ∧ ∀ p, H p = none → Q (.ref p) (upd H p (.lst (xs ++ zs)))
theorem op_catL : OpR X (binaryOp .Add) (rCatL X.K) := by
  intro pins s σ H x y v u Q I rx ry h
  obtain ⟨l, b, xs, zs, rfl, rfl, h1, h2, hz, q⟩ := h
  cases rx
  cases ry
  obtain ⟨i1, r1, ⟨⟨cls, dd, data, sl⟩, n1, e1, c1, _, d1⟩, _⟩ := I.list h1
  obtain ⟨i2, r2, ⟨⟨cls2, dd2, data2, sl2⟩, n2, e2, c2, _, d2⟩, _⟩ := I.list h2
  have k1 := r1.length
  have k2 := r2.length
  simp only at c1 d1 c2 d2
  subst c1 d1 c2 d2
  refine concat_meets ⟨_, e1, rfl⟩ ⟨_, e2, rfl⟩ noFill_list_add seq_list_add PySem.F.slot_list_add PySem.F.entry_list_add (PySem.F.args_list_add_2 _ _) (list_addW l b i1.toArray i2.toArray n1 n2 dd dd2 sl sl2 (by simp only [List.size_toArray]; omega)) ⟨e1, e2, ?_⟩
  rw [show i1.toArray ++ i2.toArray = (i1 ++ i2).toArray by simp]
  exact ⟨.ref _, _, I.lnew (t' := s.toks) (r1.append r2) (by simp only [List.length_append]; exact hz), rfl, q _ I.fresh⟩
theorem strOk_append {x y : Str} (hx : PyData.strOk x = true) (hy : PyData.strOk y = true) : PyData.strOk (x ++ y) = true := by
  unfold PyData.strOk at *
  show (x.cps ++ y.cps).all _ = true
  rw [Array.all_append, hx, hy]
  rfl
/-- +: ints, texts, tuples, lists -/
def gAdd : G2 := fun d e k => match d, e with
  | .int i, .int j => k (.dat (.int (i + j)))
  | .str x, .str y => x.length + y.length ≤ sizeLine ∧ k (.dat (.str (x ++ y)))
  | .tuple xs, .tuple ys => xs.length + ys.length ≤ sizeLine ∧ k (.dat (.tuple (xs ++ ys)))
  | .list xs, .list ys => xs.length + ys.length ≤ sizeLine ∧ k (.new (.lst (xs ++ ys)))
  | _, _ => False
theorem od_add : OpD X (binaryOp .Add) gAdd := by
  refine ⟨⟨_, (((rI0_rI (C := T2) op_add).or op_add_str).or op_catA).or op_catL, fun H d e v u Q nd ne q => ?_⟩, fun d e k k' h q => ?_⟩
  · unfold gAdd at q
    split at q
    · rw [nd.int, ne.int]
      exact .inl (.inl (.inl ⟨_, _, rfl, rfl, trivial, q _ H (same_refl H) rfl⟩))
    · rw [nd.str.1, ne.str.1]
      exact .inl (.inl (.inr ⟨_, _, rfl, rfl, q.1, q.2 _ H (same_refl H) ⟨rfl, strOk_append nd.str.2 ne.str.2⟩⟩))
    · obtain ⟨a, vs, rfl, h1, h2⟩ := nd.tuple
      obtain ⟨b, us, rfl, h3, h4⟩ := ne.tuple
      refine .inl (.inr ⟨a, b, vs, us, rfl, rfl, h1.sq, h3.sq, by rw [h2.len, h4.len]; exact q.1, fun z => ?_, fun z1 z => ?_, fun z1 z2 p hp => ?_⟩)
      · subst z
        refine q.2 _ H (same_refl H) ⟨b, us, rfl, h3, ?_⟩
        simpa using h2.append h4
      · subst z
        refine q.2 _ H (same_refl H) ⟨a, vs, rfl, h1, ?_⟩
        simpa using h2.append h4
      · exact q.2 _ _ (same_upd hp) ⟨p, _, rfl, upd_same, (h2.append h4).imm (imm_same (same_upd hp))⟩
    · obtain ⟨a, vs, rfl, h1, h2⟩ := nd.list
      obtain ⟨b, us, rfl, h3, h4⟩ := ne.list
      refine .inr ⟨a, b, vs, us, rfl, rfl, h1, h3, by rw [h2.len, h4.len]; exact q.1, fun p hp => ?_⟩
      exact q.2 _ _ (same_upd hp) ⟨rfl, p, rfl, hp, _, upd_same, (h2.append h4).imm (imm_same (same_upd hp))⟩
    · exact q.elim
  · unfold gAdd at q ⊢
    split at q <;> first | exact h _ q | exact ⟨q.1, h _ q.2⟩ | exact q
/-! ### == -/
/-- data of small depth, or one of them is -/
def shal (d e : D) : Prop := (d.depth ≤ 60 ∨ e.depth ≤ 60) ∧ noD d = true ∧ noD e = true
def gEq : G2 := fun d e k => shal d e ∧ k (.dat (.bool (PyData.eqv d e)))
def gNe : G2 := fun d e k => shal d e ∧ k (.dat (.bool (!PyData.eqv d e)))
theorem shal_min {d e : D} {n : Nat} (h : shal d e) (hu : n + 64 < cLine) : n + min d.depth e.depth < cLine := by
  have h1 := Nat.min_le_left d.depth e.depth
  have h2 := Nat.min_le_right d.depth e.depth
  rcases h with h | h <;> omega
def rEqN (K : PySem.W.Frag) : R2 := fun x y H Q => ∃ d e, RepN K H d x ∧ RepN K H e y ∧ shal d e ∧ Q (.bl (PyData.eqv d e)) H
def rNeN (K : PySem.W.Frag) : R2 := fun x y H Q => ∃ d e, RepN K H d x ∧ RepN K H e y ∧ shal d e ∧ Q (.bl (!PyData.eqv d e)) H
theorem op_eqN (hu : X.A.units + 64 < cLine) : OpR X (compareOp .Eq) (rEqN X.K) := by
  intro pins s σ H x y v u Q I rx ry h
  obtain ⟨d, e, hd, he, sh, q⟩ := h
  obtain ⟨as, ra⟩ := hd.reads I rx
  obtain ⟨bs, rb⟩ := he.reads I ry
  exact SeqAt.compareEq_reads ra rb (hd.lay sh.2.1) (he.lay sh.2.2) (shal_min sh hu) ⟨.bl _, H, I, rfl, q⟩
theorem op_neN (hu : X.A.units + 64 < cLine) : OpR X (compareOp .NotEq) (rNeN X.K) := by
  intro pins s σ H x y v u Q I rx ry h
  obtain ⟨d, e, hd, he, sh, q⟩ := h
  obtain ⟨as, ra⟩ := hd.reads I rx
  obtain ⟨bs, rb⟩ := he.reads I ry
  exact SeqAt.compareNe_reads ra rb (hd.lay sh.2.1) (he.lay sh.2.2) (shal_min sh hu) ⟨.bl _, H, I, rfl, q⟩
theorem od_eq (hu : X.A.units + 64 < cLine) : OpD X (compareOp .Eq) gEq :=
  ⟨⟨_, op_eqN hu, fun H d e v u Q nd ne q => ⟨d, e, nd, ne, q.1, q.2 _ H (same_refl H) rfl⟩⟩, fun d e k k' h q => ⟨q.1, h _ q.2⟩⟩
theorem od_ne (hu : X.A.units + 64 < cLine) : OpD X (compareOp .NotEq) gNe :=
  ⟨⟨_, op_neN hu, fun H d e v u Q nd ne q => ⟨d, e, nd, ne, q.1, q.2 _ H (same_refl H) rfl⟩⟩, fun d e k k' h q => ⟨q.1, h _ q.2⟩⟩
/-! ### in -/
def flat : D → Bool
  | .none => true
  | .bool _ => true
  | .int _ => true
  | .str _ => true
  | _ => false
def isIn (d : D) (ds : List D) : Bool := ds.any fun z => PyData.eqv z d
theorem RepN.rep {K : PySem.W.Frag} {H : Hp} {d : D} {v : V} (h : RepN K H d v) (f : flat d = true) : Rep K H d v := by
  rcases h with ⟨ds, a, vs, rfl, rfl, _, h⟩ | h
  · cases f
  · exact h
theorem Rep.flatV {K : PySem.W.Frag} {H : Hp} : ∀ {d : D} {v : V}, Rep K H d v → flat d = true → L2.flatV v = true
  | .none, _, h, _ => by rw [show _ = V.non from h]; rfl
  | .bool _, _, h, _ => by rw [show _ = V.bl _ from h]; rfl
  | .int _, _, h, _ => by rw [show _ = V.int _ from h]; rfl
  | .str _, _, h, _ => by rw [show _ = V.str _ from h.1]; rfl
  | .tuple _, _, _, f => by cases f
  | .list _, _, _, f => by cases f
  | .dict _, _, _, f => by cases f
theorem Rep.eqV {K : PySem.W.Frag} {H : Hp} {d e : D} {v u : V} (h : Rep K H d v) (k : Rep K H e u) (fd : flat d = true) (fe : flat e = true) : L2.eqV v u = PyData.eqv d e := by
  cases d <;> cases e <;> first | (cases fd; done) | (cases fe; done) | skip
  all_goals (simp only [Rep] at h k; first | obtain ⟨rfl, _⟩ := h | subst h)
  all_goals (first | obtain ⟨rfl, _⟩ := k | subst k)
  all_goals simp [L2.eqV, PyData.eqv]
theorem Reps.flatV {K : PySem.W.Frag} {H : Hp} : ∀ {ds : List D} {vs : List V}, Reps K H ds vs → ds.all flat = true → vs.all L2.flatV = true
  | [], _, h, _ => by rw [show _ = [] from h]; rfl
  | d :: ds, _, h, f => by
    obtain ⟨v, r, rfl, h1, h2⟩ := h
    rw [List.all_cons, Bool.and_eq_true] at f ⊢
    exact ⟨h1.flatV f.1, Reps.flatV h2 f.2⟩
theorem Reps.inV {K : PySem.W.Frag} {H : Hp} {d : D} {v : V} (h : Rep K H d v) (fd : flat d = true) : ∀ {ds : List D} {vs : List V}, Reps K H ds vs → ds.all flat = true → L2.inV v vs = isIn d ds
  | [], _, q, _ => by rw [show _ = [] from q]; rfl
  | e :: ds, _, q, f => by
    obtain ⟨u, r, rfl, h1, h2⟩ := q
    rw [List.all_cons, Bool.and_eq_true] at f
    show (L2.eqV u v || L2.inV v r) = (PyData.eqv e d || isIn d ds)
    rw [h1.eqV h f.1 fd, Reps.inV h fd h2 f.2]
def gIn (f : Bool → Bool) : G2 := fun d e k => match e with
  | .tuple ds => flat d = true ∧ ds.all flat = true ∧ k (.dat (.bool (f (isIn d ds))))
  | .list ds => flat d = true ∧ ds.all flat = true ∧ k (.dat (.bool (f (isIn d ds))))
  | .str y => (match d with
    | .str x => ∃ c, x = ⟨#[c]⟩ ∧ k (.dat (.bool (f (decide (c ∈ y.cps.toList)))))
    | _ => False)
  | _ => False
theorem gIn_mono {f : Bool → Bool} : ∀ d e (k k' : R → Prop), (∀ z, k z → k' z) → gIn f d e k → gIn f d e k' := fun d e k k' h q => by
  unfold gIn at q ⊢
  split at q
  · exact ⟨q.1, q.2.1, h _ q.2.2⟩
  · exact ⟨q.1, q.2.1, h _ q.2.2⟩
  · split at q
    · obtain ⟨c, e, q⟩ := q
      exact ⟨c, e, h _ q⟩
    · exact q
  · exact q
theorem od_inX {f : Value → Value → Sem Value} (neg : Bool) (h1 : OpR X f (rIn X.K neg)) (h2 : OpR X f (fun x y H Q => ∃ (c : Nat) (z : Str), x = .str ⟨#[c]⟩ ∧ y = .str z ∧ Q (.bl (if neg then !decide (c ∈ z.cps.toList) else decide (c ∈ z.cps.toList))) H)) :
    OpD X f (gIn fun b => if neg then !b else b) := by
  refine ⟨⟨_, h1.or h2, fun H d e v u Q nd ne q => ?_⟩, gIn_mono⟩
  unfold gIn at q
  split at q
  · obtain ⟨a, vs, rfl, q1, q2⟩ := ne.tuple
    refine .inl ⟨a, vs, rfl, .inr q1.sq, (nd.rep q.1).flatV q.1, q2.flatV q.2.1, ?_⟩
    rw [q2.inV (nd.rep q.1) q.1 q.2.1]
    exact q.2.2 _ H (same_refl H) (by cases neg <;> rfl)
  · obtain ⟨a, vs, rfl, q1, q2⟩ := ne.list
    refine .inl ⟨a, vs, rfl, .inl q1, (nd.rep q.1).flatV q.1, q2.flatV q.2.1, ?_⟩
    rw [q2.inV (nd.rep q.1) q.1 q.2.1]
    exact q.2.2 _ H (same_refl H) (by cases neg <;> rfl)
  · split at q
    · obtain ⟨c, rfl, q⟩ := q
      refine .inr ⟨c, _, nd.str.1, ne.str.1, q _ H (same_refl H) (by cases neg <;> rfl)⟩
    · exact q.elim
  · exact q.elim
abbrev gInT : G2 := gIn fun b => b
abbrev gNotIn : G2 := gIn fun b => !b
theorem od_in : OpD X (compareOp .In) gInT := od_inX false op_in_seq op_in_sign
theorem od_notIn : OpD X (compareOp .NotIn) gNotIn := od_inX true op_notIn_seq op_notIn_sign
/-! ### is None -/
def isNone : D → Bool
  | .none => true
  | _ => false
theorem RepN.isNone {K : PySem.W.Frag} {H : Hp} {d : D} {v : V} (h : RepN K H d v) : decide (v = .non) = isNone d := by
  rcases h with ⟨ds, a, vs, rfl, rfl, _, h⟩ | h
  · rfl
  · cases d <;> simp only [Rep] at h <;> first | (subst h; rfl) | (obtain ⟨rfl, _⟩ := h; rfl) | (obtain ⟨_, _, rfl, _⟩ := h; rfl) | (obtain ⟨_, _, _, rfl, _⟩ := h; rfl) | exact h.elim
def gIs (f : Bool → Bool) : G2 := fun d e k => match e with
  | .none => k (.dat (.bool (f (isNone d))))
  | _ => False
theorem gIs_mono {f : Bool → Bool} : ∀ d e (k k' : R → Prop), (∀ z, k z → k' z) → gIs f d e k → gIs f d e k' := fun d e k k' h q => by
  unfold gIs at q ⊢
  split at q
  · exact h _ q
  · exact q
theorem od_is : OpD X (compareOp .Is) (gIs fun b => b) := by
  refine ⟨⟨_, op_isN, fun H d e v u Q nd ne q => ?_⟩, gIs_mono⟩
  unfold gIs at q
  split at q
  · refine ⟨ne.none, ?_⟩
    rw [nd.isNone]
    exact q _ H (same_refl H) rfl
  · exact q.elim
theorem od_isNot : OpD X (compareOp .IsNot) (gIs fun b => !b) := by
  refine ⟨⟨_, op_notN, fun H d e v u Q nd ne q => ?_⟩, gIs_mono⟩
  unfold gIs at q
  split at q
  · refine ⟨ne.none, ?_⟩
    rw [nd.isNone]
    exact q _ H (same_refl H) rfl
  · exact q.elim
end
end DL
/-! DL3: names, constants, not, and, or, if, chains; freezing; arguments, displays; subscripts, slices; calls of built-ins and of defs. -/
namespace DL
open PySem PySem.Spec PyProof.Rows L2
section
variable {X : Cx} {a b c e : Expr} {ta tb tc t : TD} {pos : Pos}

/-! ### names, constants -/
def tdVar (i : Nat) : TD := fun Γ Q => match Γ[i]? with
  | some (.fz d) => Q (.fz d) Γ
  | some (.ow _ _) => Q (.bw i) Γ
  | some (.raw v) => Q (.raw v) Γ
  | _ => False
theorem tdVar_mono (i : Nat) : Mono (tdVar i) := fun Γ Q Q' h q => by
  unfold tdVar at q ⊢
  split at q <;> first | exact h _ _ q | exact q
theorem pd_of_pe {e : Expr} {i : Nat} (h : PE X e (tVar i)) : PD X e (tdVar i) := by
  refine ⟨PE.imp h fun σ H Q ⟨Γ, g, q⟩ => ?_, tdVar_mono i⟩
  unfold tdVar at q
  split at q
  · rename_i d e
    obtain ⟨v, e1, r⟩ := g.fz _ _ e
    exact ⟨v, e1, q v H (Aft.refl g) r⟩
  · rename_i p o e
    obtain ⟨e1, r⟩ := g.ow _ _ _ e
    exact ⟨_, e1, q _ H (Aft.refl g) e1⟩
  · rename_i v e
    exact ⟨v, g.raw _ _ e, q v H (Aft.refl g) rfl⟩
  · exact q.elim
theorem pdv (i : Nat) {x : Str} {pos : Pos} (hN : X.N[i]? = some x := by rfl) (hv : Vis X.env.scope x := by first | exact Or.inl rfl | exact Or.inr (Or.inl rfl) | exact Or.inr (Or.inr rfl)) (hd : (x == ("__debug__" : Str)) = false := by decide)
    (hcd : (x == ("__classdict__" : Str)) = false := by decide) : PD X (.Name x pos) (tdVar i) := pd_of_pe (pe_var hN hv hd hcd)
def tdC (d : D) : TD := fun Γ Q => Q (.fz d) Γ
theorem tdC_mono (d : D) : Mono (tdC d) := fun Γ Q Q' h q => h _ _ q
theorem pd_const {v : V} {d : D} (h : PE X e (tC v)) (r : ∀ H, Rep X.K H d v) : PD X e (tdC d) := ⟨PE.imp h fun σ H Q ⟨Γ, g, q⟩ => q v H (Aft.refl g) (r H), tdC_mono d⟩
theorem pd_int {i j pos} : PD X (.Constant (.int i) j pos) (tdC (.int i)) := pd_const pe_int fun _ => rfl
theorem pd_bl {b j pos} : PD X (.Constant (.bool b) j pos) (tdC (.bool b)) := pd_const pe_bl fun _ => rfl
theorem pd_non {j pos} : PD X (.Constant .none j pos) (tdC .none) := pd_const pe_non fun _ => rfl
theorem pd_str {x j pos} (h : PyData.strOk x = true := by decide +kernel) : PD X (.Constant (.str x) j pos) (tdC (.str x)) := pd_const pe_str fun _ => ⟨rfl, h⟩
/-- a module's constant -/
theorem pd_glob {x : Str} {v : V} {u : Value} {d : D} (hg : Gl X x) (hm : X.mg x = some u) (r : RelV v u) (rd : ∀ H, Rep X.K H d v) (hd : (x == ("__debug__" : Str)) = false := by decide) : PD X (.Name x pos) (tdC d) := pd_const (pe_glob hg hm r hd) rd
/-- -a -/
def tdNeg (ta : TD) : TD := fun Γ Q => ta Γ fun r Γ' => match r with
  | .fz (.int i) => Q (.fz (.int (-i))) Γ'
  | _ => False
theorem pd_neg (ha : PD X a ta) : PD X (.UnaryOp .USub a pos) (tdNeg ta) := by
  refine ⟨PE.imp (pe_un un_neg ha.run) fun σ H Q ⟨Γ, g, q⟩ => ⟨Γ, g, ha.mono _ _ _ (fun r Γ' q => ?_) q⟩, fun Γ Q Q' h => ha.mono _ _ _ fun r Γ' q => ?_⟩
  · intro v H' af rs
    split at q
    · exact ⟨_, rs, q _ H' af rfl⟩
    · exact q.elim
  · split at q
    · exact h _ _ q
    · exact q

/-! ### tests -/
def tbNot (t : TB) : TB := fun Γ Q => t Γ fun k Γ' => Q (!k) Γ'
def tbAnd (t u : TB) : TB := fun Γ Q => t Γ fun k Γ' => Br k (u Γ' Q) (Q false Γ')
def tbOr (t u : TB) : TB := fun Γ Q => t Γ fun k Γ' => Br k (Q true Γ') (u Γ' Q)
variable {tA tB : TB} {rest : List Expr}
theorem lift2 {K : PySem.W.Frag} {t : TB} (m : MonoB t) {σ : Sl} {H H1 : Hp} {Γ Γ1 : G} {Q : Bool → Hp → Prop} (g : RG K H σ Γ) (af : Aft K H Γ H1 σ Γ1) (q : t Γ1 fun b Γ' => ∀ H', Aft K H Γ H' σ Γ' → Q b H') : liftB K t σ H1 Q :=
  ⟨Γ1, af.rg, m _ _ _ (fun b Γ' q H' a2 => q H' (af.trans g a2)) q⟩
theorem liftE2 {K : PySem.W.Frag} {t : TD} (m : Mono t) {σ : Sl} {H H1 : Hp} {Γ Γ1 : G} {Q : VK} (g : RG K H σ Γ) (af : Aft K H Γ H1 σ Γ1) (q : t Γ1 fun r Γ' => ∀ v H', Aft K H Γ H' σ Γ' → Res K H σ Γ H' Γ' v r → Q v H') : lift K t σ H1 Q :=
  ⟨Γ1, af.rg, m _ _ _ (fun b Γ' q v H' a2 r => q v H' (af.trans g a2) (r.from af)) q⟩
theorem pb_not (ha : PB X a tA) : PB X (.UnaryOp .Not a pos) (tbNot tA) :=
  ⟨PT.imp (pt_not ha.run) fun σ H Q ⟨Γ, g, q⟩ => ⟨Γ, g, ha.mono _ _ _ (fun b Γ' q H' af => q H' af) q⟩, fun Γ Q Q' h => ha.mono _ _ _ fun k Γ' q => h _ _ q⟩
structure PBW (X : Cx) (e : Expr) (t : TB) : Prop where
  run : PW X e (liftB X.K t)
  mono : MonoB t
theorem PBW.pb {e : Expr} {t : TB} (h : PBW X e t) : PB X e t := ⟨h.run.pt, h.mono⟩
theorem PW.imp {e : Expr} {t t' : TT} (h : PW X e t) (hi : ∀ σ H Q, t' σ H Q → t σ H Q) : PW X e t' := ⟨fun wh pins s σ H Q I q => h.run wh pins s σ H Q I (hi _ _ _ q)⟩
theorem pbw_and1 (ha : PB X a tA) : PBW X (.BoolOp .And [a] pos) tA := ⟨pw_and1 ha.run, ha.mono⟩
theorem pbw_or1 (ha : PB X a tA) : PBW X (.BoolOp .Or [a] pos) tA := ⟨pw_or1 ha.run, ha.mono⟩
theorem tbAnd_mono {t u : TB} (m : MonoB t) (n : MonoB u) : MonoB (tbAnd t u) := fun Γ Q Q' h => m _ _ _ fun k Γ' q => by
  rw [br_iff] at q ⊢
  split at q
  · rename_i e; rw [if_pos e]; exact n _ _ _ h q
  · rename_i e; rw [if_neg e]; exact h _ _ q
theorem tbOr_mono {t u : TB} (m : MonoB t) (n : MonoB u) : MonoB (tbOr t u) := fun Γ Q Q' h => m _ _ _ fun k Γ' q => by
  rw [br_iff] at q ⊢
  split at q
  · rename_i e; rw [if_pos e]; exact h _ _ q
  · rename_i e; rw [if_neg e]; exact n _ _ _ h q
theorem pbw_and (ha : PB X a tA) (hb : PBW X (.BoolOp .And (b :: rest) pos) tB) : PBW X (.BoolOp .And (a :: b :: rest) pos) (tbAnd tA tB) := by
  refine ⟨PW.imp (pw_and ha.run hb.run) fun σ H Q ⟨Γ, g, q⟩ => ⟨Γ, g, ha.mono _ _ _ (fun k Γ' q => ?_) q⟩, tbAnd_mono ha.mono hb.mono⟩
  intro H' af
  rw [br_iff] at q
  split at q
  · rename_i e; rw [if_pos e]; exact lift2 hb.mono g af q
  · rename_i e; rw [if_neg e]; exact q H' af
theorem pbw_or (ha : PB X a tA) (hb : PBW X (.BoolOp .Or (b :: rest) pos) tB) : PBW X (.BoolOp .Or (a :: b :: rest) pos) (tbOr tA tB) := by
  refine ⟨PW.imp (pw_or ha.run hb.run) fun σ H Q ⟨Γ, g, q⟩ => ⟨Γ, g, ha.mono _ _ _ (fun k Γ' q => ?_) q⟩, tbOr_mono ha.mono hb.mono⟩
  intro H' af
  rw [br_iff] at q
  split at q
  · rename_i e; rw [if_pos e]; exact q H' af
  · rename_i e; rw [if_neg e]; exact lift2 hb.mono g af q
/-- .. as values (bools) -/
def tdAnd (ta tb : TD) : TD := fun Γ Q => ta Γ fun r Γ' => match r with
  | .fz (.bool k) => Br k (tb Γ' Q) (Q (.fz (.bool false)) Γ')
  | _ => False
def tdOr (ta tb : TD) : TD := fun Γ Q => ta Γ fun r Γ' => match r with
  | .fz (.bool k) => Br k (Q (.fz (.bool true)) Γ') (tb Γ' Q)
  | _ => False
def tdNot (ta : TD) : TD := fun Γ Q => ta Γ fun r Γ' => match r with
  | .fz (.bool k) => Q (.fz (.bool !k)) Γ'
  | _ => False
theorem pd_one {op} (h : PD X a ta) : PD X (.BoolOp op [a] pos) ta := ⟨pe_one h.run, h.mono⟩
theorem pd_and (ha : PD X a ta) (hb : PD X (.BoolOp .And (b :: rest) pos) tb) : PD X (.BoolOp .And (a :: b :: rest) pos) (tdAnd ta tb) := by
  refine ⟨PE.imp (pe_and ha.run hb.run) fun σ H Q ⟨Γ, g, q⟩ => ⟨Γ, g, ha.mono _ _ _ (fun r Γ' q => ?_) q⟩, fun Γ Q Q' h => ha.mono _ _ _ fun r Γ' q => ?_⟩
  · intro v H' af rs
    split at q
    · refine ⟨_, rs, ?_⟩
      rw [br_iff] at q
      split at q
      · rename_i e; rw [if_pos e]; exact liftE2 hb.mono g af q
      · rename_i e; rw [if_neg e]; exact q _ H' af rfl
    · exact q.elim
  · split at q
    · rw [br_iff] at q ⊢
      split at q
      · rename_i e; rw [if_pos e]; exact hb.mono _ _ _ h q
      · rename_i e; rw [if_neg e]; exact h _ _ q
    · exact q
theorem pd_or (ha : PD X a ta) (hb : PD X (.BoolOp .Or (b :: rest) pos) tb) : PD X (.BoolOp .Or (a :: b :: rest) pos) (tdOr ta tb) := by
  refine ⟨PE.imp (pe_or ha.run hb.run) fun σ H Q ⟨Γ, g, q⟩ => ⟨Γ, g, ha.mono _ _ _ (fun r Γ' q => ?_) q⟩, fun Γ Q Q' h => ha.mono _ _ _ fun r Γ' q => ?_⟩
  · intro v H' af rs
    split at q
    · refine ⟨_, rs, ?_⟩
      rw [br_iff] at q
      split at q
      · rename_i e; rw [if_pos e]; exact q _ H' af rfl
      · rename_i e; rw [if_neg e]; exact liftE2 hb.mono g af q
    · exact q.elim
  · split at q
    · rw [br_iff] at q ⊢
      split at q
      · rename_i e; rw [if_pos e]; exact h _ _ q
      · rename_i e; rw [if_neg e]; exact hb.mono _ _ _ h q
    · exact q
theorem pd_not (ha : PD X a ta) : PD X (.UnaryOp .Not a pos) (tdNot ta) := by
  refine ⟨PE.imp (pe_not ha.run) fun σ H Q ⟨Γ, g, q⟩ => ⟨Γ, g, ha.mono _ _ _ (fun r Γ' q => ?_) q⟩, fun Γ Q Q' h => ha.mono _ _ _ fun r Γ' q => ?_⟩
  · intro v H' af rs
    split at q
    · exact ⟨_, rs, q _ H' af rfl⟩
    · exact q.elim
  · split at q
    · exact h _ _ q
    · exact q
/-- a if c else b -/
def tdIf (t : TB) (ta tb : TD) : TD := fun Γ Q => t Γ fun k Γ' => Br k (ta Γ' Q) (tb Γ' Q)
theorem pd_ifExp (hc : PB X c tA) (ha : PD X a ta) (hb : PD X b tb) : PD X (.IfExp c a b pos) (tdIf tA ta tb) := by
  refine ⟨PE.imp (pe_ifExp hc.run ha.run hb.run) fun σ H Q ⟨Γ, g, q⟩ => ⟨Γ, g, hc.mono _ _ _ (fun k Γ' q => ?_) q⟩, fun Γ Q Q' h => hc.mono _ _ _ fun r Γ' q => ?_⟩
  · intro H' af
    rw [br_iff] at q
    split at q
    · rename_i e; rw [if_pos e]; exact liftE2 ha.mono g af q
    · rename_i e; rw [if_neg e]; exact liftE2 hb.mono g af q
  · rw [br_iff] at q ⊢
    split at q
    · rename_i e; rw [if_pos e]; exact ha.mono _ _ _ h q
    · rename_i e; rw [if_neg e]; exact hb.mono _ _ _ h q
/-- a < b < c: all data (the middle one is asked twice) -/
def tdChain (g g' : G2) (ta tb tc : TD) : TD := fun Γ Q => ta Γ fun x Γ1 => tb Γ1 fun y Γ2 => dat Γ2 x fun d => dat Γ2 y fun e => g d e fun z => match z with
  | .dat (.bool k) => Br k (tc Γ2 fun w Γ3 => dat Γ3 y fun e' => dat Γ3 w fun f => g' e' f (rq Γ3 Q)) (Q (.fz (.bool false)) Γ2)
  | _ => False
theorem pd_chain {op op' : CmpOp} {g g' : G2} (h : OpD X (compareOp op) g) (h' : OpD X (compareOp op') g') (ha : PD X a ta) (hb : PD X b tb) (hc : PD X c tc) (hm : lastMarks [op, op'] [b, c] = false := by with_unfolding_all rfl) :
    PD X (.Compare a [op, op'] [b, c] pos) (tdChain g g' ta tb tc) := by
  obtain ⟨r, ho, hr⟩ := h.ok
  obtain ⟨r', ho', hr'⟩ := h'.ok
  refine ⟨PE.imp (pe_chain ho ho' ha.run hb.run hc.run hm) fun σ H Q ⟨Γ, g0, q⟩ => ⟨Γ, g0, ha.mono _ _ _ (fun x Γ1 q => ?_) q⟩, fun Γ Q Q' hq => ha.mono _ _ _ fun x Γ1 => hb.mono _ _ _ fun y Γ2 => dat_mono fun d => dat_mono fun e => h.mono d e _ _ fun z q => ?_⟩
  · intro v H1 a1 r1
    refine ⟨Γ1, a1.rg, hb.mono _ _ _ (fun y Γ2 q => ?_) q⟩
    intro u H2 a2 r2
    have a12 := a1.trans g0 a2
    obtain ⟨d, nd, q⟩ := dat_ok a2.rg (r1.later g0 a1.rg a2) q
    obtain ⟨e, ne, q⟩ := dat_ok a2.rg r2 q
    refine hr H2 d e v u _ nd ne (h.mono _ _ _ _ (fun z q => ?_) q)
    intro w H3 sm rr
    have a3 := Aft.same a2.rg sm
    have a13 := a12.trans g0 a3
    split at q
    · refine ⟨_, rr, ?_⟩
      rw [br_iff] at q
      split at q
      · rename_i e; rw [if_pos e]
        refine ⟨Γ2, a3.rg, hc.mono _ _ _ (fun w Γ3 q => ?_) q⟩
        intro w' H4 a4 r4
        have a14 := a13.trans g0 a4
        obtain ⟨e', ne', q⟩ := dat_ok a4.rg ((r2.later a1.rg a2.rg a3).later a1.rg a3.rg a4) q
        obtain ⟨f, nf, q⟩ := dat_ok a4.rg r4 q
        refine hr' H4 e' f u w' _ ne' nf (h'.mono _ _ _ _ (fun z qz => ?_) q)
        intro w5 H5 sm5 rr5
        exact rq_ok g0 a14 qz sm5 rr5
      · rename_i e; rw [if_neg e]
        exact q _ H3 a13 rfl
    · exact q.elim
  · split at q
    · rw [br_iff] at q ⊢
      split at q
      · rename_i e; rw [if_pos e]
        exact hc.mono _ _ _ (fun w Γ3 => dat_mono fun e' => dat_mono fun f => h'.mono _ _ _ _ fun z => rq_mono hq) q
      · rename_i e; rw [if_neg e]
        exact hq _ _ q
    · exact q
theorem pb_chain {op op' : CmpOp} {g g' : G2} (h : OpD X (compareOp op) g) (h' : OpD X (compareOp op') g') (ha : PD X a ta) (hb : PD X b tb) (hc : PD X c tc) (hm : lastMarks [op, op'] [b, c] = false := by with_unfolding_all rfl)
    (hpt : ∀ (r r' : R2) (ta tb tc : TE), OpR X (compareOp op) r → OpR X (compareOp op') r' → PE X a ta → PE X b tb → PE X c tc → PT X (.Compare a [op, op'] [b, c] pos) (tTest (tChain r r' ta tb tc)) := by
      intro r r' ta tb tc h1 h2 h3 h4 h5; exact pt_chain h1 h2 h3 h4 h5) :
    PB X (.Compare a [op, op'] [b, c] pos) (tdB (tdChain g g' ta tb tc)) := by
  have hd := pd_chain (pos := pos) h h' ha hb hc hm
  refine ⟨?_, tdB_mono hd.mono⟩
  obtain ⟨r, ho, hr⟩ := h.ok
  obtain ⟨r', ho', hr'⟩ := h'.ok
  refine PT.imp (hpt r r' _ _ _ ho ho' ha.run hb.run hc.run) fun σ H Q q => ?_
  have q := tdB_ok hd.mono q
  obtain ⟨Γ, g0, q⟩ := q
  refine ⟨Γ, g0, ha.mono _ _ _ (fun x Γ1 q => ?_) q⟩
  intro v H1 a1 r1
  refine ⟨Γ1, a1.rg, hb.mono _ _ _ (fun y Γ2 q => ?_) q⟩
  intro u H2 a2 r2
  have a12 := a1.trans g0 a2
  obtain ⟨d, nd, q⟩ := dat_ok a2.rg (r1.later g0 a1.rg a2) q
  obtain ⟨e, ne, q⟩ := dat_ok a2.rg r2 q
  refine hr H2 d e v u _ nd ne (h.mono _ _ _ _ (fun z q => ?_) q)
  intro w H3 sm rr
  have a3 := Aft.same a2.rg sm
  have a13 := a12.trans g0 a3
  split at q
  · refine ⟨_, rr, ?_⟩
    rw [br_iff] at q
    split at q
    · rename_i e; rw [if_pos e]
      refine ⟨Γ2, a3.rg, hc.mono _ _ _ (fun w Γ3 q => ?_) q⟩
      intro w' H4 a4 r4
      have a14 := a13.trans g0 a4
      obtain ⟨e', ne', q⟩ := dat_ok a4.rg ((r2.later a1.rg a2.rg a3).later a1.rg a3.rg a4) q
      obtain ⟨f, nf, q⟩ := dat_ok a4.rg r4 q
      refine hr' H4 e' f u w' _ ne' nf (h'.mono _ _ _ _ (fun z qz => ?_) q)
      intro w5 H5 sm5 rr5
      exact rq_ok g0 a14 qz sm5 rr5
    · rename_i e; rw [if_neg e]
      exact q _ H3 a13 rfl
  · exact q.elim
end
end DL
/-! DL4: freezing; arguments, displays; subscripts, slices; calls of built-ins and of defs. -/
namespace DL
open PySem PySem.Spec PyProof.Rows L2
section
variable {X : Cx} {a b c e : Expr} {ta tb tc t : TD} {pos : Pos}

/-! ### freezing -/
def tdFz (t : TD) : TD := fun Γ Q => t Γ fun r Γ' => match r with
  | .fz d => Q (.fz d) Γ'
  | .raw v => Q (.raw v) Γ'
  | .ow _ (.lst ds) => Q (.fz (.list ds)) Γ'
  | .bw i => (match Γ'[i]? with
    | some (.ow p (.lst ds)) => Q (.fz (.list ds)) (Γ'.set i (.fz (.list ds)))
    | _ => False)
  | _ => False
/-- the slot i as sv instead, nothing else changed; what it held is not one's own any longer -/
theorem rg_drop {K : PySem.W.Frag} {H H' : Hp} {σ : Sl} {Γ : G} {i : Nat} {p : Addr} {o : O} {sv : SV} (g : RG K H σ Γ) (e : Γ[i]? = some (.ow p o)) (im : Imm H H') (k : ∀ q u, q ≠ p → H q = some u → H' q = some u)
    (h1 : ∀ q o', sv ≠ .ow q o') (h2 : ∀ d, sv = .fz d → Rep K H' d (.ref p)) (h3 : ∀ v, sv = .raw v → v = .ref p) : RG K H' σ (Γ.set i sv) ∧ ∀ q, own (Γ.set i sv) q → own Γ q ∧ q ∉ p :: o.fp := by
  have hi : i < Γ.length := by
    rcases Nat.lt_or_ge i Γ.length with h | h
    · exact h
    · rw [List.getElem?_eq_none h] at e; cases e
  have at_ : ∀ j (sw : SV), (Γ.set i sv)[j]? = some sw → (j = i ∧ sw = sv) ∨ (j ≠ i ∧ Γ[j]? = some sw) := fun j sw q => by
    by_cases z : j = i
    · subst z
      rw [List.getElem?_set_self hi] at q
      exact .inl ⟨rfl, (Option.some.inj q).symm⟩
    · rw [List.getElem?_set_ne (Ne.symm z)] at q
      exact .inr ⟨z, q⟩
  have np : ∀ j q o', j ≠ i → Γ[j]? = some (.ow q o') → ∀ a ∈ q :: o'.fp, a ∉ p :: o.fp := fun j q o' hj z1 a ha z2 => hj (g.one' z1 e ha z2)
  refine ⟨⟨by rw [List.length_set]; exact g.len, fun j d q => ?_, fun j q o' z => ?_, fun j v q => ?_, one_mk fun j j' q q' o1 o2 a z1 z2 ha hb => ?_, g.tbm im⟩, fun q hq => ?_⟩
  · rcases at_ j _ q with ⟨rfl, z⟩ | ⟨_, z⟩
    · exact ⟨_, (g.ow _ _ _ e).1, h2 d z.symm⟩
    · obtain ⟨v, z1, z2⟩ := g.fz _ _ z
      exact ⟨v, z1, z2.imm im⟩
  · rcases at_ j _ z with ⟨rfl, zz⟩ | ⟨hj, z⟩
    · exact absurd zz.symm (h1 _ _)
    · obtain ⟨z1, z2⟩ := g.ow _ _ _ z
      exact ⟨z1, z2.keep (fun a ha u => k a u fun y => np _ _ _ hj z a ha (by rw [y]; exact List.mem_cons_self)) im⟩
  · rcases at_ j _ q with ⟨rfl, z⟩ | ⟨_, z⟩
    · rw [h3 v z.symm]; exact (g.ow _ _ _ e).1
    · exact g.raw _ _ z
  · rcases at_ j _ z1 with ⟨rfl, z⟩ | ⟨hj, z1⟩
    · exact absurd z.symm (h1 _ _)
    · rcases at_ j' _ z2 with ⟨rfl, z⟩ | ⟨hj', z2⟩
      · exact absurd z.symm (h1 _ _)
      · exact g.one' z1 z2 ha hb
  · obtain ⟨j, q', o', z, ha⟩ := own_el hq
    rcases at_ j _ z with ⟨rfl, zz⟩ | ⟨hj, z⟩
    · exact absurd zz.symm (h1 _ _)
    · exact ⟨own_mk z ha, np _ _ _ hj z q ha⟩
theorem Mut.lst {xs : List V} : Mut (some (.lst xs)) := trivial
theorem imm_frz {H : Hp} {p : Addr} {o : HO} (m : MuL (H p)) : Imm H (upd H p o) := Imm.upd (.inr m)
theorem keep_upd {H : Hp} {p : Addr} {o : HO} : ∀ q u, q ≠ p → H q = some u → upd H p o q = some u := fun q u n h => by rw [upd_ne n]; exact h
theorem pd_fz (h : PD X e t) : PD X e (tdFz t) := by
  refine ⟨⟨fun pins s σ H Q I ⟨Γ, g, q⟩ => ?_⟩, fun Γ Q Q' hq => h.mono _ _ _ fun r Γ' q => ?_⟩
  · -- the value, then the ghost step
    refine thn (h.run.run pins s σ H (fun v H1 => ∃ r Γ1, Aft X.K H Γ H1 σ Γ1 ∧ Res X.K H σ Γ H1 Γ1 v r ∧ (match r with
      | .fz d => (fun r Γ' => ∀ v H', Aft X.K H Γ H' σ Γ' → Res X.K H σ Γ H' Γ' v r → Q v H') (.fz d) Γ1
      | .raw v => (fun r Γ' => ∀ v H', Aft X.K H Γ H' σ Γ' → Res X.K H σ Γ H' Γ' v r → Q v H') (.raw v) Γ1
      | .ow _ (.lst ds) => (fun r Γ' => ∀ v H', Aft X.K H Γ H' σ Γ' → Res X.K H σ Γ H' Γ' v r → Q v H') (.fz (.list ds)) Γ1
      | .bw i => (match Γ1[i]? with
        | some (.ow p (.lst ds)) => (fun r Γ' => ∀ v H', Aft X.K H Γ H' σ Γ' → Res X.K H σ Γ H' Γ' v r → Q v H') (.fz (.list ds)) (Γ1.set i (.fz (.list ds)))
        | _ => False)
      | _ => False)) I ⟨Γ, g, h.mono _ _ _ (fun r Γ' q v H' af rs => ⟨r, Γ', af, rs, q⟩) q⟩) fun u s1 ⟨v, H1, I1, rv, r, Γ1, af, rs, q⟩ => ?_
    split at q
    · exact ⟨v, H1, I1, rv, q _ H1 af rs⟩
    · exact ⟨v, H1, I1, rv, q _ H1 af rs⟩
    · rename_i p ds
      obtain ⟨rfl, ⟨vs, e1, rp⟩, n, f⟩ := rs
      obtain ⟨od, I2⟩ := I1.lock e1 Mut.lst
      have im : Imm H1 (upd H1 p (.frz od (.lst vs))) := imm_frz (by rw [e1]; trivial)
      have g1 : RG X.K (upd H1 p (.frz od (.lst vs))) σ Γ1 := by
        refine ⟨af.rg.len, fun j d z => ?_, fun j q o z => ?_, af.rg.raw, af.rg.one, af.rg.tbm im⟩
        · obtain ⟨w, z1, z2⟩ := af.rg.fz _ _ z
          exact ⟨w, z1, z2.imm im⟩
        · obtain ⟨z1, z2⟩ := af.rg.ow _ _ _ z
          exact ⟨z1, z2.keep (fun a ha u => keep_upd a u fun y => n p List.mem_cons_self (by rw [← y]; exact own_mk z ha)) im⟩
      have f := f p List.mem_cons_self
      refine ⟨.ref p, _, I2, rv, q _ _ ⟨fun a u z1 z2 => ?_, g1, af.sh, af.im.trans im⟩ ⟨p, vs, rfl, .inl ⟨od, upd_same⟩, rp.imm im⟩⟩
      have ne : a ≠ p := fun y => by
        subst y
        rcases f with f | f
        · exact z2 f
        · rw [f] at z1; cases z1
      rw [upd_ne ne]
      intro _
      exact af.keep _ _ z1 z2
    · rename_i i
      split at q
      · rename_i p ds e1
        obtain ⟨w1, vs, w2, rp⟩ := af.rg.ow _ _ _ e1
        have ev : v = .ref p := by
          have z := (show σ[i]? = some (some v) from rs).symm.trans w1
          cases z; rfl
        subst ev
        obtain ⟨od, I2⟩ := I1.lock w2 Mut.lst
        have im : Imm H1 (upd H1 p (.frz od (.lst vs))) := imm_frz (by rw [w2]; trivial)
        have rl : Rep X.K (upd H1 p (.frz od (.lst vs))) (.list ds) (.ref p) := ⟨p, vs, rfl, .inl ⟨od, upd_same⟩, rp.imm im⟩
        obtain ⟨g1, n1⟩ := rg_drop af.rg (sv := .fz (.list ds)) e1 im keep_upd (fun _ _ z => by cases z) (fun d z => by cases z; exact rl) (fun _ z => by cases z)
        refine ⟨.ref p, _, I2, rv, q _ _ ⟨fun a u z1 z2 => ?_, g1, fun a z => af.sh a (n1 a z).1, af.im.trans im⟩ rl⟩
        have ne : a ≠ p := fun y => by
          subst y
          rcases af.sh a (own_p e1) with f | f
          · exact z2 f
          · rw [f] at z1; cases z1
        rw [upd_ne ne]
        intro _
        exact af.keep _ _ z1 z2
      · exact q.elim
    · exact q.elim
  · split at q <;> first | exact hq _ _ q | (split at q <;> first | exact hq _ _ q | exact q) | exact q

/-! ### arguments, displays -/
def taNil : TAD := fun Γ Q => Q [] Γ
def taCons (ta : TD) (tr : TAD) : TAD := fun Γ Q => ta Γ fun r Γ1 => tr Γ1 fun rs Γ2 => Q (r :: rs) Γ2
variable {es : List Expr} {tr : TAD}
theorem pad_nil : PAD X [] taNil := ⟨PA.imp pa_nil fun σ H Q ⟨Γ, g, q⟩ => q [] H (Aft.refl g) rfl, fun Γ Q Q' h q => h _ _ q, fun Γ Q q => ⟨rfl, q⟩⟩
theorem Ress.from {K : PySem.W.Frag} {H H1 H2 : Hp} {σ σ1 : Sl} {Γ Γ1 Γ2 : G} (a : Aft K H Γ H1 σ1 Γ1) : ∀ {rs : List SV} {vs : List V}, Ress K H1 σ Γ1 H2 Γ2 rs vs → Ress K H σ Γ H2 Γ2 rs vs
  | [], _, h => h
  | r :: rs, _, h => by
    obtain ⟨v, w, e, h1, h2⟩ := h
    exact ⟨v, w, e, h1.from a, Ress.from a h2⟩
theorem pad_cons (ha : PD X a ta) (hr : PAD X es tr) (hs : starEach (a :: es) X.env = (false, eval a X.env) :: starEach es X.env := by rfl) : PAD X (a :: es) (taCons ta tr) := by
  refine ⟨PA.imp (pa_cons ha.run hr.run hs) fun σ H Q ⟨Γ, g, q⟩ => ⟨Γ, g, ha.mono _ _ _ (fun r Γ1 q => ?_) q⟩, fun Γ Q Q' h => ha.mono _ _ _ fun r Γ1 => hr.mono _ _ _ fun rs Γ2 q => h _ _ q, fun Γ Q q => ha.mono _ _ _ (fun r Γ1 q => hr.mono _ _ _ (fun rs Γ2 z => ⟨by rw [List.length_cons, List.length_cons, z.1], z.2⟩) (hr.len _ _ q)) q⟩
  intro v H1 a1 r1
  refine ⟨Γ1, a1.rg, hr.mono _ _ _ (fun rs Γ2 q => ?_) q⟩
  intro vs H2 a2 r2
  exact q (v :: vs) H2 (a1.trans g a2) ⟨v, vs, rfl, r1.later g a1.rg a2, r2.from a1⟩
/-- all are data for ever -/
def fzs : List SV → (List D → Prop) → Prop
  | [], k => k []
  | .fz d :: rs, k => fzs rs fun ds => k (d :: ds)
  | _ :: _, _ => False
theorem fzs_mono : ∀ {rs : List SV} {k k' : List D → Prop}, (∀ ds, k ds → k' ds) → fzs rs k → fzs rs k'
  | [], _, _, h, q => h _ q
  | .fz d :: rs, _, _, h, q => fzs_mono (rs := rs) (fun ds => h (d :: ds)) q
  | .no :: _, _, _, _, q => q
  | .ow _ _ :: _, _, _, _, q => q
  | .raw _ :: _, _, _, _, q => q
  | .bw _ :: _, _, _, _, q => q
theorem fzs_ok {K : PySem.W.Frag} {H H' : Hp} {σ : Sl} {Γ Γ' : G} : ∀ {rs : List SV} {vs : List V} {k : List D → Prop}, Ress K H σ Γ H' Γ' rs vs → fzs rs k → ∃ ds, Reps K H' ds vs ∧ k ds
  | [], _, _, h, q => ⟨[], h, q⟩
  | .fz d :: rs, _, _, h, q => by
    obtain ⟨v, w, e, h1, h2⟩ := h
    obtain ⟨ds, h3, q⟩ := fzs_ok h2 q
    exact ⟨d :: ds, ⟨v, w, e, h1, h3⟩, q⟩
  | .no :: _, _, _, _, q => q.elim
  | .ow _ _ :: _, _, _, _, q => q.elim
  | .raw _ :: _, _, _, _, q => q.elim
  | .bw _ :: _, _, _, _, q => q.elim
theorem le_line {n : Nat} (h : n ≤ 1000) : n ≤ sizeLine := Nat.le_of_lt (small1000 h)
theorem fzs_len {K : PySem.W.Frag} {H H' : Hp} {σ : Sl} {Γ Γ' : G} {rs : List SV} {vs : List V} {ds : List D} (h : Ress K H σ Γ H' Γ' rs vs) (r : Reps K H' ds vs) : ds.length = rs.length := by
  have go : ∀ {rs : List SV} {vs : List V}, Ress K H σ Γ H' Γ' rs vs → vs.length = rs.length := by
    intro rs
    induction rs with
    | nil => intro vs h; rw [show vs = [] from h]; rfl
    | cons r rs ih =>
      intro vs h
      obtain ⟨v, w, rfl, _, h2⟩ := h
      simp only [List.length_cons, ih h2]
  rw [← r.len, go h]
def tdTup (t : TAD) : TD := fun Γ Q => t Γ fun rs Γ' => fzs rs fun ds => Q (.fz (.tuple ds)) Γ'
theorem pd_tup {k : Nat} (h : PAD X es tr) (hn : es.length ≤ 1000 := by decide) : PD X (.Tuple es k pos) (tdTup tr) := by
  refine ⟨PE.imp (pe_tup h.run) fun σ H Q ⟨Γ, g, q⟩ => ⟨Γ, g, h.mono _ _ _ (fun rs Γ1 q => ?_) (h.len _ _ q)⟩, fun Γ Q Q' hq => h.mono _ _ _ fun rs Γ1 => fzs_mono fun ds q => hq _ _ q⟩
  intro vs H1 a1 r1
  have ql := q.1
  obtain ⟨ds, rp, q⟩ := fzs_ok r1 q.2
  have hl : ds.length ≤ 1000 := by rw [fzs_len r1 rp, ql]; exact hn
  refine ⟨by rw [rp.len]; exact le_line hl, fun p hp => ?_⟩
  have sm : Same H1 (upd H1 p (.tup vs)) := same_upd hp
  exact q _ _ (a1.trans g (Aft.same a1.rg sm)) ⟨p, vs, rfl, upd_same, rp.imm (imm_same sm)⟩
def tdLst (t : TAD) : TD := fun Γ Q => t Γ fun rs Γ' => fzs rs fun ds => ∀ p, Q (.ow p (.lst ds)) Γ'
theorem pd_lst (h : PAD X es tr) (hn : es.length ≤ 1000 := by decide) : PD X (.List es pos) (tdLst tr) := by
  refine ⟨PE.imp (pe_lst h.run) fun σ H Q ⟨Γ, g, q⟩ => ⟨Γ, g, h.mono _ _ _ (fun rs Γ1 q => ?_) (h.len _ _ q)⟩, fun Γ Q Q' hq => h.mono _ _ _ fun rs Γ1 => fzs_mono fun ds q p => hq _ _ (q p)⟩
  intro vs H1 a1 r1
  have ql := q.1
  obtain ⟨ds, rp, q⟩ := fzs_ok r1 q.2
  have hl : ds.length ≤ 1000 := by rw [fzs_len r1 rp, ql]; exact hn
  refine ⟨by rw [rp.len]; exact le_line hl, fun p hp => ?_⟩
  have sm : Same H1 (upd H1 p (.lst vs)) := same_upd hp
  exact q p _ _ (a1.trans g (Aft.same a1.rg sm)) ⟨rfl, ⟨vs, upd_same, rp.imm (imm_same sm)⟩, fp1 rfl fun z => a1.rg.there z hp, fp1 rfl (a1.fresh (.inr hp))⟩
/-- {} as a dict with int keys, with tuple keys -/
def tdDictI : TD := fun Γ Q => ∀ p, Q (.ow p (.dI [])) Γ
def tdDictT : TD := fun Γ Q => ∀ p, Q (.ow p (.dT [])) Γ
theorem pd_dictI : PD X (.Dict [] [] pos) tdDictI := by
  refine ⟨PE.imp pe_dnewK fun σ H Q ⟨Γ, g, q⟩ p hp => ?_, fun Γ Q Q' hq q p => hq _ _ (q p)⟩
  exact q p _ _ (Aft.same g (same_upd hp)) ⟨rfl, ⟨[], upd_same, rfl⟩, fp1 rfl fun z => g.there z hp, fp1 rfl (.inr hp)⟩
theorem pd_dictT : PD X (.Dict [] [] pos) tdDictT := by
  refine ⟨PE.imp pe_dnewT fun σ H Q ⟨Γ, g, q⟩ p hp => ?_, fun Γ Q Q' hq q p => hq _ _ (q p)⟩
  exact q p _ _ (Aft.same g (same_upd hp)) ⟨rfl, ⟨[], upd_same, rfl⟩, fp1 rfl fun z => g.there z hp, fp1 rfl (.inr hp)⟩

/-! ### subscripts -/
theorem atI_reps {K : PySem.W.Frag} {H : Hp} {ds : List D} {vs : List V} {i : Int} {d : D} (h : Reps K H ds vs) (e : atI ds i = some d) : ∃ v, atI vs i = some v ∧ Rep K H d v := by
  unfold atI at e ⊢
  rw [h.len]
  cases q : ixN ds.length i with
  | none => rw [q] at e; cases e
  | some j =>
    rw [q] at e
    exact h.get e
/-- atI, told so that it reckons on lists whose tail is not known -/
def atD {α : Type} (ds : List α) (i : Int) : Option α := match i with
  | .ofNat n => ds[n]?
  | .negSucc n => if n < ds.length then ds[ds.length - 1 - n]? else none
theorem atD_eq {α : Type} {ds : List α} {i : Int} : atD ds i = atI ds i := by
  cases i with
  | ofNat n =>
    show ds[n]? = (ixN ds.length (n : Int)).bind _
    unfold ixN
    rw [if_pos (Int.natCast_nonneg n)]
    by_cases h : n < ds.length
    · rw [if_pos (by exact_mod_cast h)]
      rfl
    · rw [if_neg (by exact_mod_cast h), List.getElem?_eq_none (Nat.le_of_not_lt h)]
      rfl
  | negSucc n =>
    have n0 : ¬ (0 : Int) ≤ Int.negSucc n := by omega
    show (if n < ds.length then ds[ds.length - 1 - n]? else none) = (ixN ds.length (Int.negSucc n)).bind _
    unfold ixN
    rw [if_neg n0]
    by_cases h : n < ds.length
    · have h2 : -(ds.length : Int) ≤ Int.negSucc n := by omega
      have h3 : (Int.negSucc n + (ds.length : Int)).toNat = ds.length - 1 - n := by omega
      rw [if_pos h, if_pos h2, h3]
      rfl
    · have h2 : ¬ -(ds.length : Int) ≤ Int.negSucc n := by omega
      rw [if_neg h, if_neg h2]
      rfl
def atP (ds : List D) (i : Int) (k : D → Prop) : Prop := match atD ds i with
  | some d => k d
  | none => False
theorem atP_mono {ds : List D} {i : Int} {k k' : D → Prop} (h : ∀ d, k d → k' d) (q : atP ds i k) : atP ds i k' := by
  unfold atP at q ⊢
  split at q
  · exact h _ q
  · exact q
theorem atP_ok {ds : List D} {i : Int} {k : D → Prop} (q : atP ds i k) : ∃ d, atI ds i = some d ∧ k d := by
  unfold atP at q
  split at q
  · exact ⟨_, by rw [← atD_eq]; assumption, q⟩
  · exact q.elim
theorem atP_nat {ds : List D} {j : Nat} {d : D} {k : D → Prop} (h : ds[j]? = some d) (q : k d) : atP ds (j : Int) k := by
  unfold atP
  rw [atD_eq, atI_nat h]
  exact q
def gIx : G2 := fun d e k => match d, e with
  | .tuple ds, .int i => atP ds i fun x => k (.dat x)
  | .list ds, .int i => atP ds i fun x => k (.dat x)
  | .str z, .int i => z.length ≤ sizeLine ∧ (match atD z.cps.toList i with
    | some c => k (.dat (.str ⟨#[c]⟩))
    | none => False)
  | _, _ => False
theorem strOk_sign {z : Str} {i : Int} {c : Nat} (h : PyData.strOk z = true) (e : atI z.cps.toList i = some c) : PyData.strOk ⟨#[c]⟩ = true := by
  unfold atI at e
  cases q : ixN z.cps.toList.length i with
  | none => rw [q] at e; cases e
  | some j =>
    rw [q] at e
    have hm : c ∈ z.cps.toList := List.mem_of_getElem? e
    unfold PyData.strOk at h ⊢
    rw [← Array.all_toList, List.all_eq_true] at h
    simpa using h c hm
structure IxD (X : Cx) (g : G2) : Prop where
  ok : ∃ r : R2, IxR X r ∧ ∀ (H : Hp) (d e : D) (v u : V) (Q : VK), RepN X.K H d v → RepN X.K H e u → g d e (fun z => ∀ w H', Same H H' → RRes X.K H H' w z → Q w H') → r v u H Q
  mono : ∀ d e (k k' : R → Prop), (∀ z, k z → k' z) → g d e k → g d e k'
theorem ixd : IxD X gIx := by
  refine ⟨⟨_, ix_seq, fun H d e v u Q nd ne q => ?_⟩, fun d e k k' h q => ?_⟩
  · unfold gIx at q
    split at q
    · obtain ⟨x, ex, q⟩ := atP_ok q
      obtain ⟨a, vs, rfl, h1, h2⟩ := nd.tuple
      obtain ⟨w, ew, rw'⟩ := atI_reps h2 ex
      exact .inr (.inl ⟨a, vs, _, w, rfl, ne.int, h1.sq, ew, q w H (same_refl H) rw'⟩)
    · obtain ⟨x, ex, q⟩ := atP_ok q
      obtain ⟨a, vs, rfl, h1, h2⟩ := nd.list
      obtain ⟨w, ew, rw'⟩ := atI_reps h2 ex
      exact .inl ⟨a, vs, _, w, rfl, ne.int, h1, ew, q w H (same_refl H) rw'⟩
    · obtain ⟨hz, q⟩ := q
      split at q
      · rename_i c ec
        rw [atD_eq] at ec
        exact .inr (.inr ⟨_, _, c, nd.str.1, ne.int, hz, ec, q _ H (same_refl H) ⟨rfl, strOk_sign nd.str.2 ec⟩⟩)
      · exact q.elim
    · exact q.elim
  · unfold gIx at q ⊢
    split at q
    · exact atP_mono (fun _ => h _) q
    · exact atP_mono (fun _ => h _) q
    · obtain ⟨hz, q⟩ := q
      refine ⟨hz, ?_⟩
      split at q
      · exact h _ q
      · exact q
    · exact q
theorem pd_ix (ha : PD X a ta) (hb : PD X b tb) (hs : PlainIx b := by intro _ _; rfl) : PD X (.Subscript a b pos) (td2 gIx ta tb) := by
  obtain ⟨r, ho, hr⟩ := (ixd (X := X)).ok
  have hO : OpD X getItem gIx ∨ True := .inr trivial
  refine ⟨PE.imp (pe_ix ho ha.run hb.run hs) fun σ H Q ⟨Γ, g0, q⟩ => ⟨Γ, g0, ha.mono _ _ _ (fun x Γ1 q1 => ?_) q⟩, fun Γ Q Q' hq => ha.mono _ _ _ fun x Γ1 => hb.mono _ _ _ fun y Γ2 => dat_mono fun d => dat_mono fun e => (ixd (X := X)).mono d e _ _ fun z => rq_mono hq⟩
  intro v H1 a1 r1
  refine ⟨Γ1, a1.rg, hb.mono _ _ _ (fun y Γ2 q2 => ?_) q1⟩
  intro u H2 a2 r2
  have a12 := a1.trans g0 a2
  obtain ⟨d, nd, q2⟩ := dat_ok a2.rg (r1.later g0 a1.rg a2) q2
  obtain ⟨e, ne, q2⟩ := dat_ok a2.rg r2 q2
  refine hr H2 d e v u Q nd ne ((ixd (X := X)).mono _ _ _ _ (fun z qz => ?_) q2)
  intro w H' sm rr
  exact rq_ok g0 a12 qz sm rr

/-! ### slices -/
abbrev TOD := G → (Option Int → G → Prop) → Prop
def liftO (K : PySem.W.Frag) (t : TOD) : TO := fun σ H Q => ∃ Γ, RG K H σ Γ ∧ t Γ fun o Γ' => ∀ H', Aft K H Γ H' σ Γ' → Q o H'
structure POD (X : Cx) (o : Option Expr) (t : TOD) : Prop where
  run : PO X o (liftO X.K t)
  mono : ∀ Γ (Q Q' : Option Int → G → Prop), (∀ r Γ', Q r Γ' → Q' r Γ') → t Γ Q → t Γ Q'
def toN : TOD := fun Γ Q => Q none Γ
def toS (t : TD) : TOD := fun Γ Q => t Γ fun r Γ' => match r with
  | .fz (.int i) => Q (some i) Γ'
  | _ => False
theorem PO.imp {o : Option Expr} {t t' : TO} (h : PO X o t) (hi : ∀ σ H Q, t' σ H Q → t σ H Q) : PO X o t' := by
  cases h with
  | mk run => exact ⟨by intros; exact run _ _ _ _ _ (by assumption) (hi _ _ _ (by assumption))⟩
theorem pod_none : POD X none toN := ⟨PO.imp po_none fun σ H Q ⟨Γ, g, q⟩ => q H (Aft.refl g), fun Γ Q Q' h q => h _ _ q⟩
theorem pod_some (h : PD X e t) : POD X (some e) (toS t) := by
  refine ⟨PO.imp (po_some h.run) fun σ H Q ⟨Γ, g, q⟩ => ⟨Γ, g, h.mono _ _ _ (fun r Γ' q => ?_) q⟩, fun Γ Q Q' hq => h.mono _ _ _ fun r Γ' q => ?_⟩
  · intro v H' af rs
    split at q
    · exact ⟨_, rs, q H' af⟩
    · exact q.elim
  · split at q
    · exact hq _ _ q
    · exact q
def cutD (xs : List D) (lo hi : Option Int) : List D := (xs.drop (HT.sIx xs.length 0 lo)).take (HT.sIx xs.length xs.length hi - HT.sIx xs.length 0 lo)
theorem Reps.cut {K : PySem.W.Frag} {H : Hp} {ds : List D} {vs : List V} (lo hi : Option Int) (h : Reps K H ds vs) : Reps K H (cutD ds lo hi) (cutV vs lo hi) := by
  unfold cutD cutV
  rw [h.len]
  exact (h.drop _).take _
def gSl (d : D) (lo hi : Option Int) (k : R → Prop) : Prop := match d with
  | .tuple ds => k (.dat (.tuple (cutD ds lo hi)))
  | .list ds => k (.new (.lst (cutD ds lo hi)))
  | .str z => z.length ≤ sizeLine ∧ k (.dat (.str (cutS z lo hi)))
  | _ => False
theorem strOk_cut {z : Str} {lo hi : Option Int} (h : PyData.strOk z = true) : PyData.strOk (cutS z lo hi) = true := by
  unfold PyData.strOk at h ⊢
  unfold cutS
  rw [← Array.all_toList, List.all_eq_true] at h ⊢
  intro c hc
  simp only at hc
  exact h c (List.mem_of_mem_drop (List.mem_of_mem_take hc))
def tdSl (ta : TD) (tl th : TOD) : TD := fun Γ Q => ta Γ fun x Γ1 => tl Γ1 fun lo Γ2 => th Γ2 fun hi Γ3 => dat Γ3 x fun d => gSl d lo hi (rq Γ3 Q)
theorem gSl_mono {d : D} {lo hi : Option Int} {k k' : R → Prop} (h : ∀ z, k z → k' z) (q : gSl d lo hi k) : gSl d lo hi k' := by
  unfold gSl at q ⊢
  split at q <;> first | exact h _ q | exact ⟨q.1, h _ q.2⟩ | exact q
variable {lo hi : Option Expr} {tl th : TOD} {p2 : Pos}
theorem pd_slice (ha : PD X a ta) (hl : POD X lo tl) (hh : POD X hi th) : PD X (.Subscript a (.Slice lo hi none p2) pos) (tdSl ta tl th) := by
  refine ⟨PE.imp (pe_slice ((sl_tupA.or sl_list).or sl_str) ha.run hl.run hh.run) fun σ H Q ⟨Γ, g0, q⟩ => ⟨Γ, g0, ha.mono _ _ _ (fun x Γ1 q1 => ?_) q⟩, fun Γ Q Q' hq => ha.mono _ _ _ fun x Γ1 => hl.mono _ _ _ fun o Γ2 => hh.mono _ _ _ fun o' Γ3 => dat_mono fun d => gSl_mono fun z => rq_mono hq⟩
  intro v H1 a1 r1
  refine ⟨Γ1, a1.rg, hl.mono _ _ _ (fun o Γ2 q2 => ?_) q1⟩
  intro H2 a2
  refine ⟨Γ2, a2.rg, hh.mono _ _ _ (fun o' Γ3 q3 => ?_) q2⟩
  intro H3 a3
  have a12 := a1.trans g0 a2
  have a13 := a12.trans g0 a3
  obtain ⟨d, nd, q3⟩ := dat_ok a3.rg ((r1.later g0 a1.rg a2).later g0 a2.rg a3) q3
  unfold gSl at q3
  split at q3
  · obtain ⟨p, vs, rfl, h1, h2⟩ := nd.tuple
    refine .inl (.inl ⟨p, vs, rfl, h1.sq, fun hw => ?_, fun hw p' hp => ?_⟩)
    · have rs : Rep X.K H3 (.tuple (cutD _ o o')) (.ref p) := ⟨p, cutV vs o o', rfl, by
        have : cutV vs o o' = vs := by
          unfold cutV
          rw [hw.1, hw.2]
          simp
        rw [this]; exact h1, h2.cut o o'⟩
      exact rq_ok g0 a13 q3 (same_refl H3) rs
    · exact rq_ok g0 a13 q3 (same_upd hp) ⟨p', _, rfl, upd_same, (h2.cut o o').imm (imm_same (same_upd hp))⟩
  · obtain ⟨p, vs, rfl, h1, h2⟩ := nd.list
    exact .inl (.inr ⟨p, vs, rfl, h1, fun p' hp => rq_ok g0 a13 q3 (same_upd hp) ⟨rfl, p', rfl, hp, _, upd_same, (h2.cut o o').imm (imm_same (same_upd hp))⟩⟩)
  · exact .inr ⟨_, nd.str.1, q3.1, rq_ok g0 a13 q3.2 (same_refl H3) ⟨rfl, strOk_cut nd.str.2⟩⟩
  · exact q3.elim

/-! ### calls of built-ins -/
abbrev GC := List D → (R → Prop) → Prop
structure CallD (X : Cx) (f : Value) (g : GC) : Prop where
  ok : ∃ r : List V → Hp → VK → Prop, CallR X f r ∧ ∀ (H : Hp) (ds : List D) (vs : List V) (Q : VK), Paired (RepN X.K H) ds vs → g ds (fun z => ∀ w H', Same H H' → RRes X.K H H' w z → Q w H') → r vs H Q
  mono : ∀ ds (k k' : R → Prop), (∀ z, k z → k' z) → g ds k → g ds k'
/-- all arguments as they stand now -/
def dats (Γ : G) : List SV → (List D → Prop) → Prop
  | [], k => k []
  | r :: rs, k => dat Γ r fun d => dats Γ rs fun ds => k (d :: ds)
theorem dats_mono {Γ : G} : ∀ {rs : List SV} {k k' : List D → Prop}, (∀ ds, k ds → k' ds) → dats Γ rs k → dats Γ rs k'
  | [], _, _, h, q => h _ q
  | r :: rs, _, _, h, q => dat_mono (fun d => dats_mono (rs := rs) fun ds => h (d :: ds)) q
theorem dats_ok {K : PySem.W.Frag} {H H0 : Hp} {σ : Sl} {Γ Γ0 : G} (g : RG K H σ Γ) : ∀ {rs : List SV} {vs : List V} {k : List D → Prop}, Ress K H0 σ Γ0 H Γ rs vs → dats Γ rs k → ∃ ds, Paired (RepN K H) ds vs ∧ k ds
  | [], _, _, h, q => by
    rw [show _ = [] from h]
    exact ⟨[], .nil, q⟩
  | r :: rs, _, _, h, q => by
    obtain ⟨v, w, rfl, h1, h2⟩ := h
    obtain ⟨d, nd, q⟩ := dat_ok g h1 q
    obtain ⟨ds, nds, q⟩ := dats_ok g h2 q
    exact ⟨d :: ds, .cons nd nds, q⟩
def tdCB (g : GC) (t : TAD) : TD := fun Γ Q => t Γ fun rs Γ' => dats Γ' rs fun ds => g ds (rq Γ' Q)
theorem tdCB_ok {f : Value} {g : GC} (h : CallD X f g) {r : List V → Hp → VK → Prop}
    (hr : ∀ (H : Hp) (ds : List D) (vs : List V) (Q : VK), Paired (RepN X.K H) ds vs → g ds (fun z => ∀ w H', Same H H' → RRes X.K H H' w z → Q w H') → r vs H Q) (m : MonoA tr) {σ : Sl} {H : Hp} {Q : VK} (q : lift X.K (tdCB g tr) σ H Q) : tCB r (liftA X.K tr) σ H Q := by
  obtain ⟨Γ, g0, q⟩ := q
  refine ⟨Γ, g0, m _ _ _ (fun rs Γ' q => ?_) q⟩
  intro vs H' af rr
  obtain ⟨ds, nds, q⟩ := dats_ok af.rg rr q
  refine hr H' ds vs Q nds (h.mono _ _ _ (fun z qz => ?_) q)
  intro w H2 sm rz
  exact rq_ok g0 af qz sm rz
theorem tdCB_mono {f : Value} {g : GC} (h : CallD X f g) (m : MonoA tr) : Mono (tdCB g tr) := fun Γ Q Q' hq => m _ _ _ fun rs Γ' => dats_mono fun ds => h.mono _ _ _ fun z => rq_mono hq
variable {x : Str} {p : Pos} {id : String} {T : String}
theorem pd_callB {g : GC} (h : CallD X (.builtin id) g) (hg : Gl X x) (hm : X.mg x = none) (hv : bootBuiltins x = some (.builtin id)) (ha : PAD X (e :: es) tr)
    (hn : x ≠ "__name__" := by decide) (hd : (x == ("__debug__" : Str)) = false := by decide) (he : starEach (e :: es) X.env = (false, eval e X.env) :: starEach es X.env := by rfl) (hpl : (backTo pos (starEach es X.env)).any (·.1) = false := by rfl) : PD X (.Call (.Name x p) (e :: es) [] pos) (tdCB g tr) := by
  obtain ⟨r, hc, hr⟩ := h.ok
  exact ⟨PE.imp (pe_callB hc hg hm hv ha.run hn hd he hpl) fun σ H Q => tdCB_ok h hr ha.mono, tdCB_mono h ha.mono⟩
theorem pd_callTy {g : GC} (h : CallD X (.type T) g) (hg : Gl X x) (hm : X.mg x = none) (hv : bootBuiltins x = some (.type T)) (ha : PAD X (e :: es) tr)
    (hn : x ≠ "__name__" := by decide) (hd : (x == ("__debug__" : Str)) = false := by decide) (he : starEach (e :: es) X.env = (false, eval e X.env) :: starEach es X.env := by rfl) (hpl : (backTo pos (starEach es X.env)).any (·.1) = false := by rfl) : PD X (.Call (.Name x p) (e :: es) [] pos) (tdCB g tr) := by
  obtain ⟨r, hc, hr⟩ := h.ok
  exact ⟨PE.imp (pe_callTy hc hg hm hv ha.run hn hd he hpl) fun σ H Q => tdCB_ok h hr ha.mono, tdCB_mono h ha.mono⟩
end
end DL
/-! DL5: built-ins one by one: len, list, tuple, sorted, abs, int, max, min, sum, range, isinstance. -/
namespace DL
open PySem PySem.Spec PyProof.Rows L2
section
variable {X : Cx}
theorem pr1 {α β : Type} {F : α → β → Prop} {x : α} {ys : List β} (h : Paired F [x] ys) : ∃ y, ys = [y] ∧ F x y := by
  cases h with
  | cons a b => cases b; exact ⟨_, rfl, a⟩
theorem pr2 {α β : Type} {F : α → β → Prop} {x x' : α} {ys : List β} (h : Paired F [x, x'] ys) : ∃ y y', ys = [y, y'] ∧ F x y ∧ F x' y' := by
  cases h with
  | cons a b => obtain ⟨y', rfl, c⟩ := pr1 b; exact ⟨_, _, rfl, a, c⟩
def gLen : GC := fun ds k => match ds with
  | [.list xs] => k (.dat (.int xs.length))
  | [.tuple xs] => k (.dat (.int xs.length))
  | [.str z] => z.length ≤ sizeLine ∧ k (.dat (.int z.length))
  | _ => False
theorem cd_len : CallD X (.builtin "len") gLen := by
  refine ⟨⟨_, call_len_seq.or call_len_str, fun H ds vs Q nd q => ?_⟩, fun ds k k' h q => ?_⟩
  · unfold gLen at q
    split at q
    · obtain ⟨v, rfl, n⟩ := pr1 nd
      obtain ⟨a, ws, rfl, h1, h2⟩ := n.list
      exact .inl ⟨a, ws, rfl, .inl h1, q _ H (same_refl H) (by rw [h2.len]; rfl)⟩
    · obtain ⟨v, rfl, n⟩ := pr1 nd
      obtain ⟨a, ws, rfl, h1, h2⟩ := n.tuple
      exact .inl ⟨a, ws, rfl, .inr h1.sq, q _ H (same_refl H) (by rw [h2.len]; rfl)⟩
    · obtain ⟨v, rfl, n⟩ := pr1 nd
      rw [n.str.1]
      exact .inr ⟨_, rfl, q.1, q.2 _ H (same_refl H) rfl⟩
    · exact q.elim
  · unfold gLen at q ⊢
    split at q <;> first | exact h _ q | exact ⟨q.1, h _ q.2⟩ | exact q
def gList : GC := fun ds k => match ds with
  | [.list xs] => k (.new (.lst xs))
  | [.tuple xs] => k (.new (.lst xs))
  | _ => False
theorem cd_list : CallD X (.type "list") gList := by
  refine ⟨⟨_, call_list_of, fun H ds vs Q nd q => ?_⟩, fun ds k k' h q => ?_⟩
  · unfold gList at q
    split at q
    · obtain ⟨v, rfl, n⟩ := pr1 nd
      obtain ⟨a, ws, rfl, h1, h2⟩ := n.list
      exact ⟨a, ws, rfl, .inl h1, fun p hp => q _ _ (same_upd hp) ⟨rfl, p, rfl, hp, ws, upd_same, h2.imm (imm_same (same_upd hp))⟩⟩
    · obtain ⟨v, rfl, n⟩ := pr1 nd
      obtain ⟨a, ws, rfl, h1, h2⟩ := n.tuple
      exact ⟨a, ws, rfl, .inr h1.sq, fun p hp => q _ _ (same_upd hp) ⟨rfl, p, rfl, hp, ws, upd_same, h2.imm (imm_same (same_upd hp))⟩⟩
    · exact q.elim
  · unfold gList at q ⊢
    split at q <;> first | exact h _ q | exact q
def gTuple : GC := fun ds k => match ds with
  | [.list xs] => k (.dat (.tuple xs))
  | [.tuple xs] => k (.dat (.tuple xs))
  | _ => False
theorem cd_tuple : CallD X (.type "tuple") gTuple := by
  refine ⟨⟨_, call_tuple_of, fun H ds vs Q nd q => ?_⟩, fun ds k k' h q => ?_⟩
  · unfold gTuple at q
    split at q
    · obtain ⟨v, rfl, n⟩ := pr1 nd
      obtain ⟨a, ws, rfl, h1, h2⟩ := n.list
      exact ⟨a, ws, rfl, .inl ⟨h1, fun p hp => q _ _ (same_upd hp) ⟨p, ws, rfl, upd_same, h2.imm (imm_same (same_upd hp))⟩⟩⟩
    · obtain ⟨v, rfl, n⟩ := pr1 nd
      obtain ⟨a, ws, rfl, h1, h2⟩ := n.tuple
      exact ⟨a, ws, rfl, .inr ⟨h1.sq, q _ H (same_refl H) ⟨a, ws, rfl, h1, h2⟩⟩⟩
    · exact q.elim
  · unfold gTuple at q ⊢
    split at q <;> first | exact h _ q | exact q
/-- sorted of ints -/
def gSortI : GC := fun ds k => match ds with
  | [.list es] => ∃ xs : List Int, es = xs.map .int ∧ ∀ ys : List Int, ys.Perm xs → ys.Pairwise (· ≤ ·) → k (.new (.lst (ys.map .int)))
  | _ => False
theorem cd_sortI : CallD X (.builtin "sorted") gSortI := by
  refine ⟨⟨_, cr_sortedI, fun H ds vs Q nd q => ?_⟩, fun ds k k' h q => ?_⟩
  · unfold gSortI at q
    split at q
    · obtain ⟨xs, rfl, q⟩ := q
      obtain ⟨v, rfl, n⟩ := pr1 nd
      obtain ⟨a, ws, rfl, h1, h2⟩ := n.list
      rw [h2.ints] at h1
      exact ⟨a, xs, rfl, h1, fun ys p hp hs hn => q ys hp hs _ _ (same_upd hn) ⟨rfl, p, rfl, hn, _, upd_same, Reps.of_ints ys⟩⟩
    · exact q.elim
  · unfold gSortI at q ⊢
    split at q
    · obtain ⟨xs, e, q⟩ := q
      exact ⟨xs, e, fun ys h1 h2 => h _ (q ys h1 h2)⟩
    · exact q
def gAbs : GC := fun ds k => match ds with
  | [.int i] => k (.dat (.int (if i < 0 then -i else i)))
  | _ => False
theorem cd_abs : CallD X (.builtin "abs") gAbs := by
  refine ⟨⟨_, call_abs, fun H ds vs Q nd q => ?_⟩, fun ds k k' h q => ?_⟩
  · unfold gAbs at q
    split at q
    · obtain ⟨v, rfl, n⟩ := pr1 nd
      rw [n.int]
      exact ⟨_, rfl, q _ H (same_refl H) rfl⟩
    · exact q.elim
  · unfold gAbs at q ⊢
    split at q <;> first | exact h _ q | exact q
def gInt : GC := fun ds k => match ds with
  | [.int i] => k (.dat (.int i))
  | [.bool b] => k (.dat (.int (if b then 1 else 0)))
  | _ => False
theorem cd_int : CallD X (.type "int") gInt := by
  refine ⟨⟨_, call_int1, fun H ds vs Q nd q => ?_⟩, fun ds k k' h q => ?_⟩
  · unfold gInt at q
    split at q
    · obtain ⟨v, rfl, n⟩ := pr1 nd
      rw [n.int]
      exact .inl ⟨_, rfl, q _ H (same_refl H) rfl⟩
    · obtain ⟨v, rfl, n⟩ := pr1 nd
      rw [n.bool]
      exact .inr ⟨_, rfl, q _ H (same_refl H) rfl⟩
    · exact q.elim
  · unfold gInt at q ⊢
    split at q <;> first | exact h _ q | exact q
def gMax : GC := fun ds k => match ds with
  | [.int i, .int j] => k (.dat (.int (if j > i then j else i)))
  | [.list es] => ∃ xs : List Int, es = xs.map .int ∧ 0 < xs.length ∧ ∀ M, M ∈ xs → (∀ a ∈ xs, a ≤ M) → k (.dat (.int M))
  | _ => False
def gMin : GC := fun ds k => match ds with
  | [.int i, .int j] => k (.dat (.int (if j < i then j else i)))
  | [.list es] => ∃ xs : List Int, es = xs.map .int ∧ 0 < xs.length ∧ ∀ M, M ∈ xs → (∀ a ∈ xs, M ≤ a) → k (.dat (.int M))
  | _ => False
theorem cd_max (hc : X.calm = true) : CallD X (.builtin "max") gMax := by
  refine ⟨⟨_, (call_max2 hc).or (cr_max hc), fun H ds vs Q nd q => ?_⟩, fun ds k k' h q => ?_⟩
  · unfold gMax at q
    split at q
    · obtain ⟨v, u, rfl, n, n'⟩ := pr2 nd
      rw [n.int, n'.int]
      exact .inl ⟨_, _, rfl, q _ H (same_refl H) rfl⟩
    · obtain ⟨xs, rfl, ne, q⟩ := q
      obtain ⟨v, rfl, n⟩ := pr1 nd
      obtain ⟨a, ws, rfl, h1, h2⟩ := n.list
      rw [h2.ints] at h1
      exact .inr ⟨a, xs, rfl, h1, ne, fun M h3 h4 => q M h3 h4 _ H (same_refl H) rfl⟩
    · exact q.elim
  · unfold gMax at q ⊢
    split at q
    · exact h _ q
    · obtain ⟨xs, e, ne, q⟩ := q
      exact ⟨xs, e, ne, fun M h1 h2 => h _ (q M h1 h2)⟩
    · exact q
theorem cd_min (hc : X.calm = true) : CallD X (.builtin "min") gMin := by
  refine ⟨⟨_, (call_min2 hc).or (cr_min hc), fun H ds vs Q nd q => ?_⟩, fun ds k k' h q => ?_⟩
  · unfold gMin at q
    split at q
    · obtain ⟨v, u, rfl, n, n'⟩ := pr2 nd
      rw [n.int, n'.int]
      exact .inl ⟨_, _, rfl, q _ H (same_refl H) rfl⟩
    · obtain ⟨xs, rfl, ne, q⟩ := q
      obtain ⟨v, rfl, n⟩ := pr1 nd
      obtain ⟨a, ws, rfl, h1, h2⟩ := n.list
      rw [h2.ints] at h1
      exact .inr ⟨a, xs, rfl, h1, ne, fun M h3 h4 => q M h3 h4 _ H (same_refl H) rfl⟩
    · exact q.elim
  · unfold gMin at q ⊢
    split at q
    · exact h _ q
    · obtain ⟨xs, e, ne, q⟩ := q
      exact ⟨xs, e, ne, fun M h1 h2 => h _ (q M h1 h2)⟩
    · exact q
def gSum : GC := fun ds k => match ds with
  | [.list es] => ∃ xs : List Int, es = xs.map .int ∧ k (.dat (.int xs.sum))
  | _ => False
theorem cd_sum (hc : X.calm = true) : CallD X (.builtin "sum") gSum := by
  refine ⟨⟨_, cr_sum hc, fun H ds vs Q nd q => ?_⟩, fun ds k k' h q => ?_⟩
  · unfold gSum at q
    split at q
    · obtain ⟨xs, rfl, q⟩ := q
      obtain ⟨v, rfl, n⟩ := pr1 nd
      obtain ⟨a, ws, rfl, h1, h2⟩ := n.list
      rw [h2.ints] at h1
      exact ⟨a, xs, rfl, h1, q _ H (same_refl H) rfl⟩
    · exact q.elim
  · unfold gSum at q ⊢
    split at q
    · obtain ⟨xs, e, q⟩ := q
      exact ⟨xs, e, h _ q⟩
    · exact q

/-! ### list(range(..)), tuple(range(..)) -/
variable {a b e : Expr} {ta tb t : TD} {p p2 pos pos2 : Pos}
def rgD (a b : Int) : List D := (List.range (b - a).toNat).map fun i => .int (a + (i : Nat))
theorem reps_rg {K : PySem.W.Frag} {H : Hp} (a b : Int) : Reps K H (rgD a b) (rgV a b) := by
  unfold rgD rgV
  have go : ∀ l : List Nat, Reps K H (l.map fun i => PyData.int (a + (i : Nat))) (l.map fun i => V.int (a + (i : Nat))) := fun l => by
    induction l with
    | nil => exact rfl
    | cons x l ih => exact ⟨_, _, rfl, rfl, ih⟩
  exact go _
abbrev TRD := G → (Int → Int → G → Prop) → Prop
structure PRD (X : Cx) (e : Expr) (t : TRD) : Prop where
  run : PRg X e fun σ H Q => ∃ Γ, RG X.K H σ Γ ∧ t Γ fun i j Γ' => ∀ H', Aft X.K H Γ H' σ Γ' → Q i j H'
  mono : ∀ Γ (Q Q' : Int → Int → G → Prop), (∀ i j Γ', Q i j Γ' → Q' i j Γ') → t Γ Q → t Γ Q'
def trg1 (ta : TD) : TRD := fun Γ Q => ta Γ fun r Γ' => match r with
  | .fz (.int n) => Q 0 n Γ'
  | _ => False
def trg2 (ta tb : TD) : TRD := fun Γ Q => ta Γ fun r Γ1 => match r with
  | .fz (.int i) => tb Γ1 fun r' Γ2 => (match r' with
    | .fz (.int j) => Q i j Γ2
    | _ => False)
  | _ => False
theorem PRg.imp {e : Expr} {t t' : L2.St → Hp → (Int → Int → Hp → Prop) → Prop} (h : PRg X e t) (hi : ∀ σ H Q, t' σ H Q → t σ H Q) : PRg X e t' := by
  intro pins s σ H Q I q
  exact h pins s σ H Q I (hi _ _ _ q)
theorem prd1 (hg : Gl X "range") (hm : X.mg "range" = none) (ha : PD X a ta) (na : starEach [a] X.env = (false, eval a X.env) :: starEach [] X.env := by rfl) : PRD X (.Call (.Name "range" p) [a] [] pos) (trg1 ta) := by
  refine ⟨PRg.imp (prg_1 hg hm ha.run na) fun σ H Q ⟨Γ, g, q⟩ => ⟨Γ, g, ha.mono _ _ _ (fun r Γ' q => ?_) q⟩, fun Γ Q Q' h => ha.mono _ _ _ fun r Γ' q => ?_⟩
  · intro v H' af rs
    split at q
    · exact ⟨_, rs, q H' af⟩
    · exact q.elim
  · split at q
    · exact h _ _ _ q
    · exact q
theorem prd2 (hg : Gl X "range") (hm : X.mg "range" = none) (ha : PD X a ta) (hb : PD X b tb) (na : starEach [a, b] X.env = (false, eval a X.env) :: starEach [b] X.env := by rfl) (nb : starEach [b] X.env = (false, eval b X.env) :: starEach [] X.env := by rfl)
    (hpl : (backTo pos (starEach [b] X.env)).any (·.1) = false := by rfl) : PRD X (.Call (.Name "range" p) [a, b] [] pos) (trg2 ta tb) := by
  refine ⟨PRg.imp (prg_2 hg hm ha.run hb.run na nb hpl) fun σ H Q ⟨Γ, g, q⟩ => ⟨Γ, g, ha.mono _ _ _ (fun r Γ1 q => ?_) q⟩, fun Γ Q Q' h => ha.mono _ _ _ fun r Γ1 q => ?_⟩
  · intro v H1 a1 r1
    split at q
    · refine ⟨Γ1, a1.rg, hb.mono _ _ _ (fun r' Γ2 q => ?_) q⟩
      intro u H2 a2 r2
      split at q
      · exact ⟨_, _, r1, r2, q H2 (a1.trans g a2)⟩
      · exact q.elim
    · exact q.elim
  · split at q
    · refine hb.mono _ _ _ (fun r' Γ2 q => ?_) q
      split at q
      · exact h _ _ _ q
      · exact q
    · exact q
def tdLstRg (t : TRD) : TD := fun Γ Q => t Γ fun i j Γ' => RgOk i j ∧ ∀ p, Q (.ow p (.lst (rgD i j))) Γ'
def tdTupRg (t : TRD) : TD := fun Γ Q => t Γ fun i j Γ' => RgOk i j ∧ Q (.fz (.tuple (rgD i j))) Γ'
variable {tr : TRD}
theorem pd_listRg (hc : X.calm = true) (hg : Gl X "list") (hm : X.mg "list" = none) (he : PRD X e tr) (na : starEach [e] X.env = (false, eval e X.env) :: starEach [] X.env := by rfl) : PD X (.Call (.Name "list" p) [e] [] pos) (tdLstRg tr) := by
  refine ⟨PE.imp (pe_listRg hc hg hm he.run na) fun σ H Q ⟨Γ, g, q⟩ => ⟨Γ, g, he.mono _ _ _ (fun i j Γ' q => ?_) q⟩, fun Γ Q Q' hq => he.mono _ _ _ fun i j Γ' q => ⟨q.1, fun p => hq _ _ (q.2 p)⟩⟩
  intro H' af
  refine ⟨q.1, fun p hp => ?_⟩
  have sm := same_upd (o := .lst (rgV i j)) hp
  exact q.2 p _ _ (af.trans g (Aft.same af.rg sm)) ⟨rfl, ⟨_, upd_same, reps_rg i j⟩, fp1 rfl fun z => af.rg.there z hp, fp1 rfl (af.fresh (.inr hp))⟩
theorem pd_tupRg (hc : X.calm = true) (hg : Gl X "tuple") (hm : X.mg "tuple" = none) (he : PRD X e tr) (na : starEach [e] X.env = (false, eval e X.env) :: starEach [] X.env := by rfl) : PD X (.Call (.Name "tuple" p) [e] [] pos) (tdTupRg tr) := by
  refine ⟨PE.imp (pe_tupRg hc hg hm he.run na) fun σ H Q ⟨Γ, g, q⟩ => ⟨Γ, g, he.mono _ _ _ (fun i j Γ' q => ?_) q⟩, fun Γ Q Q' hq => he.mono _ _ _ fun i j Γ' q => ⟨q.1, hq _ _ q.2⟩⟩
  intro H' af
  refine ⟨q.1, fun p hp => ?_⟩
  have sm := same_upd (o := .tup (rgV i j)) hp
  exact q.2 _ _ (af.trans g (Aft.same af.rg sm)) ⟨p, _, rfl, upd_same, reps_rg i j⟩

/-! ### isinstance of a built-in class -/
def tyName : D → String
  | .none => "NoneType"
  | .bool _ => "bool"
  | .int _ => "int"
  | .str _ => "str"
  | .list _ => "list"
  | .tuple _ => "tuple"
  | .dict _ => "dict"
def notDict : D → Prop
  | .dict _ => False
  | _ => True
def tdIsi (T : String) (ta : TD) : TD := fun Γ Q => ta Γ fun r Γ' => dat Γ' r fun d => notDict d ∧ ∃ k, kitB (tyName d) T = some k ∧ Q (.fz (.bool k)) Γ'
theorem RepN.ty {K : PySem.W.Frag} {H : Hp} : ∀ {d : D} {v : V}, RepN K H d v → notDict d → TyX K H v (.type (tyName d))
  | .none, _, h, _ => by rw [h.none]; exact .base .non
  | .bool _, _, h, _ => by rw [h.bool]; exact .base (.bl _)
  | .int _, _, h, _ => by rw [h.int]; exact .base (.int _)
  | .str _, _, h, _ => by rw [h.str.1]; exact .base (.str _)
  | .list _, _, h, _ => by
    obtain ⟨a, vs, rfl, h1, _⟩ := h.list
    rcases h1 with (h1 | ⟨o, h1⟩) | ⟨o, its, n, h1, h2, _⟩
    · exact .base (.lst h1)
    · exact .base (.frz h1)
    · exact .kList h1 h2
  | .tuple _, _, h, _ => by
    obtain ⟨a, vs, rfl, h1, _⟩ := h.tuple
    exact .base (.tup h1)
  | .dict _, _, _, n => n.elim
theorem pd_isi {T : String} {x : Str} (hg : Gl X "isinstance") (hm : X.mg "isinstance" = none) (hgT : Gl X x) (hmT : X.mg x = none) (hvT : bootBuiltins x = some (.type T)) (ha : PD X a ta)
    (hnT : x ≠ "__name__" := by decide) (hdT : (x == ("__debug__" : Str)) = false := by decide) (hv : bootBuiltins "isinstance" = some (.builtin "isinstance") := by decide +kernel)
    (na : starEach [a, .Name x p2] X.env = (false, eval a X.env) :: starEach [.Name x p2] X.env := by rfl) (nb : starEach [Expr.Name x p2] X.env = (false, eval (.Name x p2) X.env) :: starEach [] X.env := by rfl)
    (hpl : (backTo pos (starEach [Expr.Name x p2] X.env)).any (·.1) = false := by rfl) : PD X (.Call (.Name "isinstance" p) [a, .Name x p2] [] pos) (tdIsi T ta) := by
  have hT : PE X (.Name x p2) (tC (.ty T)) := pe_bltn hgT hmT hvT rfl hnT hdT
  refine ⟨PE.imp (pe_callB call_isi hg hm hv (pa_cons ha.run (pa_cons hT pa_nil nb) na) (by decide) (by decide) na hpl) fun σ H Q ⟨Γ, g, q⟩ => ⟨Γ, g, ha.mono _ _ _ (fun r Γ' q => ?_) q⟩, fun Γ Q Q' hq => ha.mono _ _ _ fun r Γ' => dat_mono fun d ⟨n, k, e, q⟩ => ⟨n, k, e, hq _ _ q⟩⟩
  intro v H' af rs
  obtain ⟨d, nd, n, k, e, q⟩ := dat_ok af.rg rs q
  exact ⟨v, .ty T, _, _, k, rfl, .ty T, nd.ty n, kit_ty e, q _ H' af rfl⟩
end
end DL
/-! DL6: calls of defs, a def's promise over data; statements; while. -/
namespace DL
open PySem PySem.Spec PyProof.Rows L2

/-! ### a def's promise -/
abbrev SpD := G → (SV → G → Prop) → (XD → G → Prop) → Prop
def liftSp (K : PySem.W.Frag) (n : Nat) (sp : SpD) : Sp := fun vs H Q E => vs.length = n ∧ ∃ Γ, RG K H (vs.map some) Γ ∧ sp Γ
  (fun r Γ' => ∀ v H', Aft K H Γ H' (vs.map some) Γ' → Res K H (vs.map some) Γ H' Γ' v r → Q v H')
  (fun x Γ' => ∀ c d H', Aft K H Γ H' (vs.map some) Γ' → XOk K H' x c d → E c d H')
def isBw : SV → Bool
  | .bw _ => true
  | _ => false
def argOf (Γ : G) : SV → SV
  | .bw i => Γ.getD i .no
  | .ow _ _ => .no
  | r => r
/-- each slot is lent once -/
def bwIx : SV → Option Nat
  | .bw i => some i
  | _ => none
def bwOk (rs : List SV) : Bool := decide (rs.filterMap bwIx).Nodup
def wback (Γ : G) : List SV → G → G
  | [], _ => Γ
  | .bw i :: rs, Γa => (wback Γ rs Γa.tail).set i (Γa.headD .no)
  | _ :: rs, Γa => wback Γ rs Γa.tail
def tdCall (sp : SpD) (t : TAD) : TD := fun Γ Q => t Γ fun rs Γ1 => bwOk rs = true ∧ sp (rs.map (argOf Γ1)) (fun r Γa => isBw r = false ∧ Q r (wback Γ1 rs Γa)) (fun _ _ => False)
def MonoSp (sp : SpD) : Prop := ∀ Γ Q Q' E E', (∀ r Γ', Q r Γ' → Q' r Γ') → (∀ x Γ', E x Γ' → E' x Γ') → sp Γ Q E → sp Γ Q' E'

theorem wback_at {Γ : G} {i : Nat} {s : SV} : ∀ {rs : List SV} {Γa : G}, (rs.filterMap bwIx).Nodup → (wback Γ rs Γa)[i]? = some s → (Γ[i]? = some s ∧ ∀ j : Nat, rs[j]? ≠ some (.bw i)) ∨ ∃ j : Nat, rs[j]? = some (.bw i) ∧ (Γa[j]? = some s ∨ s = .no)
  | [], Γa, _, h => .inl ⟨h, fun j => by simp⟩
  | .bw k :: rs, Γa, nd, h => by
    have nd' : k ∉ rs.filterMap bwIx ∧ (rs.filterMap bwIx).Nodup := by simpa [List.filterMap_cons, bwIx] using nd
    have h' : ((wback Γ rs Γa.tail).set k (Γa.headD .no))[i]? = some s := h
    by_cases e : i = k
    · subst e
      refine .inr ⟨0, rfl, ?_⟩
      have hi : i < (wback Γ rs Γa.tail).length := by
        rcases Nat.lt_or_ge i (wback Γ rs Γa.tail).length with z | z
        · exact z
        · rw [List.getElem?_eq_none (by rw [List.length_set]; exact z)] at h'; cases h'
      rw [List.getElem?_set_self hi] at h'
      cases Γa with
      | nil => exact .inr (Option.some.inj h').symm
      | cons x l => exact .inl (by simpa using h')
    · rw [List.getElem?_set_ne (Ne.symm e)] at h'
      rcases wback_at nd'.2 h' with ⟨z1, z2⟩ | ⟨j, z1, z2⟩
      · refine .inl ⟨z1, fun j => ?_⟩
        cases j with
        | zero => intro z; simp at z; exact e z.symm
        | succ j => simpa using z2 j
      · refine .inr ⟨j + 1, by simpa using z1, ?_⟩
        rcases z2 with z2 | z2
        · refine .inl ?_
          cases Γa with
          | nil => simp at z2
          | cons x l => simpa using z2
        · exact .inr z2
  | .no :: rs, Γa, nd, h => wback_tail (by intro z; cases z) (by simpa [List.filterMap_cons, bwIx] using nd) h
  | .fz d :: rs, Γa, nd, h => wback_tail (by intro z; cases z) (by simpa [List.filterMap_cons, bwIx] using nd) h
  | .ow p o :: rs, Γa, nd, h => wback_tail (by intro z; cases z) (by simpa [List.filterMap_cons, bwIx] using nd) h
  | .raw v :: rs, Γa, nd, h => wback_tail (by intro z; cases z) (by simpa [List.filterMap_cons, bwIx] using nd) h
where
  wback_tail {Γ : G} {i : Nat} {s r : SV} {rs : List SV} {Γa : G} (hr : r ≠ .bw i) (nd : (rs.filterMap bwIx).Nodup) (h : (wback Γ rs Γa.tail)[i]? = some s) : (Γ[i]? = some s ∧ ∀ j : Nat, (r :: rs)[j]? ≠ some (.bw i)) ∨ ∃ j : Nat, (r :: rs)[j]? = some (.bw i) ∧ (Γa[j]? = some s ∨ s = .no) := by
    rcases wback_at nd h with ⟨z1, z2⟩ | ⟨j, z1, z2⟩
    · refine .inl ⟨z1, fun j => ?_⟩
      cases j with
      | zero => intro z; exact hr (by simpa using z)
      | succ j => simpa using z2 j
    · refine .inr ⟨j + 1, by simpa using z1, ?_⟩
      rcases z2 with z2 | z2
      · refine .inl ?_
        cases Γa with
        | nil => simp at z2
        | cons x l => simpa using z2
      · exact .inr z2
theorem wback_len {Γ : G} : ∀ {rs : List SV} {Γa : G}, (wback Γ rs Γa).length = Γ.length
  | [], _ => rfl
  | .bw k :: rs, Γa => by
    show ((wback Γ rs Γa.tail).set k (Γa.headD .no)).length = _
    rw [List.length_set, wback_len]
  | .no :: rs, Γa => wback_len (rs := rs)
  | .fz _ :: rs, Γa => wback_len (rs := rs)
  | .ow _ _ :: rs, Γa => wback_len (rs := rs)
  | .raw _ :: rs, Γa => wback_len (rs := rs)
theorem Ress.get {K : PySem.W.Frag} {H H' : Hp} {σ : Sl} {Γ Γ' : G} : ∀ {rs : List SV} {vs : List V} {j : Nat} {r : SV}, Ress K H σ Γ H' Γ' rs vs → rs[j]? = some r → ∃ v, vs[j]? = some v ∧ Res K H σ Γ H' Γ' v r
  | [], _, _, _, _, e => by simp at e
  | x :: rs, _, 0, r, h, e => by
    obtain ⟨v, w, rfl, h1, h2⟩ := h
    simp only [List.getElem?_cons_zero, Option.some.injEq] at e
    subst e
    exact ⟨v, rfl, h1⟩
  | x :: rs, _, j + 1, r, h, e => by
    obtain ⟨v, w, rfl, h1, h2⟩ := h
    simp only [List.getElem?_cons_succ] at e
    obtain ⟨u, e1, e2⟩ := Ress.get h2 e
    exact ⟨u, by simpa using e1, e2⟩
theorem Ress.len {K : PySem.W.Frag} {H H' : Hp} {σ : Sl} {Γ Γ' : G} : ∀ {rs : List SV} {vs : List V}, Ress K H σ Γ H' Γ' rs vs → vs.length = rs.length
  | [], _, h => by rw [show _ = [] from h]; rfl
  | _ :: _, _, h => by
    obtain ⟨v, w, rfl, _, h2⟩ := h
    simp only [List.length_cons, Ress.len h2]
/-- which slot an argument of one's own comes from -/
theorem arg_own {Γ : G} {rs : List SV} {j : Nat} {p : Addr} {o : O} (h : (rs.map (argOf Γ))[j]? = some (.ow p o)) : ∃ i, rs[j]? = some (.bw i) ∧ Γ[i]? = some (.ow p o) := by
  rw [List.getElem?_map] at h
  cases e : rs[j]? with
  | none => rw [e] at h; cases h
  | some r =>
    rw [e] at h
    have h : argOf Γ r = .ow p o := Option.some.inj h
    cases r with
    | bw i =>
      refine ⟨i, rfl, ?_⟩
      have h : Γ.getD i .no = .ow p o := h
      rw [List.getD_eq_getElem?_getD] at h
      cases q : Γ[i]? with
      | none => rw [q] at h; cases h
      | some s => rw [q] at h; simpa using h
    | no => cases h
    | fz d => cases h
    | ow _ _ => cases h
    | raw _ => cases h
theorem nodup_ix {rs : List SV} : ∀ {j j' i : Nat}, (rs.filterMap bwIx).Nodup → rs[j]? = some (.bw i) → rs[j']? = some (.bw i) → j = j' := by
  induction rs with
  | nil => intro j j' i _ h; simp at h
  | cons r rs ih =>
    intro j j' i nd h h'
    have mem : ∀ {m : Nat}, rs[m]? = some (.bw i) → i ∈ rs.filterMap bwIx := fun {m} e => List.mem_filterMap.mpr ⟨.bw i, List.mem_of_getElem? e, rfl⟩
    have nd2 : (rs.filterMap bwIx).Nodup := by
      cases r <;> simp [List.filterMap_cons, bwIx] at nd <;> first | exact nd | exact nd.2
    have hd : r = .bw i → i ∉ rs.filterMap bwIx := fun e => by
      subst e
      simp [List.filterMap_cons, bwIx] at nd
      simpa [bwIx] using nd.1
    cases j with
    | zero =>
      cases j' with
      | zero => rfl
      | succ j' =>
        simp only [List.getElem?_cons_zero, Option.some.injEq] at h
        simp only [List.getElem?_cons_succ] at h'
        exact absurd (mem h') (hd h)
    | succ j =>
      cases j' with
      | zero =>
        simp only [List.getElem?_cons_zero, Option.some.injEq] at h'
        simp only [List.getElem?_cons_succ] at h
        exact absurd (mem h) (hd h')
      | succ j' =>
        simp only [List.getElem?_cons_succ] at h h'
        rw [ih nd2 h h']
section
variable {K : PySem.W.Frag} {H H1 H2 : Hp} {σ : Sl} {Γ Γ1 Γa : G} {rs : List SV} {vs : List V}
theorem rg_args (g1 : RG K H1 σ Γ1) (rr : Ress K H σ Γ H1 Γ1 rs vs) (nd : (rs.filterMap bwIx).Nodup) : RG K H1 (vs.map some) (rs.map (argOf Γ1)) := by
  have at_ : ∀ {j : Nat} {s : SV}, (rs.map (argOf Γ1))[j]? = some s → ∃ r v, rs[j]? = some r ∧ vs[j]? = some v ∧ s = argOf Γ1 r ∧ Res K H σ Γ H1 Γ1 v r := fun {j s} e => by
    rw [List.getElem?_map] at e
    cases q : rs[j]? with
    | none => rw [q] at e; cases e
    | some r =>
      rw [q] at e
      obtain ⟨v, e1, e2⟩ := rr.get q
      exact ⟨r, v, rfl, e1, (Option.some.inj e).symm, e2⟩
  have getd : ∀ {i : Nat} {s : SV}, Γ1.getD i .no = s → s ≠ .no → Γ1[i]? = some s := fun {i s} e n => by
    rw [List.getD_eq_getElem?_getD] at e
    cases q : Γ1[i]? with
    | none => rw [q] at e; exact absurd e.symm n
    | some s' => rw [q] at e; rw [← e]; rfl
  have ev : ∀ {j : Nat} {v : V}, vs[j]? = some v → (vs.map some)[j]? = some (some v) := fun {j v} e => by rw [List.getElem?_map, e]; rfl
  refine ⟨by rw [List.length_map, List.length_map, rr.len], fun j d e => ?_, fun j p o e => ?_, fun j v e => ?_, one_mk fun j j' p p' o o' a e e' ha hb => ?_, g1.tb⟩
  · obtain ⟨r, v, h1, h2, h3, h4⟩ := at_ e
    refine ⟨v, ev h2, ?_⟩
    cases r with
    | bw i =>
      have q := getd h3.symm (by intro z; cases z)
      obtain ⟨u, z1, z2⟩ := g1.fz _ _ q
      have := (show σ[i]? = some (some v) from h4).symm.trans z1
      cases this; exact z2
    | fz d' => cases h3; exact h4
    | no => cases h3
    | ow _ _ => cases h3
    | raw _ => cases h3
  · obtain ⟨i, h1, h2⟩ := arg_own e
    obtain ⟨v, e1, e2⟩ := rr.get h1
    obtain ⟨z1, z2⟩ := g1.ow _ _ _ h2
    have := (show σ[i]? = some (some v) from e2).symm.trans z1
    cases this
    exact ⟨ev e1, z2⟩
  · obtain ⟨r, u, h1, h2, h3, h4⟩ := at_ e
    cases r with
    | bw i =>
      have q := getd h3.symm (by intro z; cases z)
      have := (show σ[i]? = some (some u) from h4).symm.trans (g1.raw _ _ q)
      cases this; exact ev h2
    | raw v' =>
      cases h3
      rw [show u = v from h4] at h2
      exact ev h2
    | no => cases h3
    | ow _ _ => cases h3
    | fz _ => cases h3
  · obtain ⟨i, h1, h2⟩ := arg_own e
    obtain ⟨i', h1', h2'⟩ := arg_own e'
    have := g1.one' h2 h2' ha hb
    subst this
    exact nodup_ix nd h1 h1'
theorem own_args {p : Addr} (h : own (rs.map (argOf Γ1)) p) : ∃ (i j : Nat) (q : Addr) (o : O), rs[j]? = some (.bw i) ∧ Γ1[i]? = some (.ow q o) ∧ p ∈ q :: o.fp := by
  obtain ⟨j, q, o, e, ha⟩ := own_el h
  obtain ⟨i, h1, h2⟩ := arg_own e
  exact ⟨i, j, q, o, h1, h2, ha⟩
/-- behind a call: the slots lent hold what they hold now -/
theorem rg_wback (g1 : RG K H1 σ Γ1) (rr : Ress K H σ Γ H1 Γ1 rs vs) (nd : (rs.filterMap bwIx).Nodup) (a : Aft K H1 (rs.map (argOf Γ1)) H2 (vs.map some) Γa) :
    Aft K H1 Γ1 H2 σ (wback Γ1 rs Γa) ∧ ∀ p, own (wback Γ1 rs Γa) p → (own Γ1 p ∧ ¬ own (rs.map (argOf Γ1)) p) ∨ own Γa p := by
  have ga := rg_args g1 rr nd
  have im := a.imm ga
  have sub : ∀ {p}, own (rs.map (argOf Γ1)) p → own Γ1 p := fun h => let ⟨i, j, q, o, h1, h2, h3⟩ := own_args h; own_mk h2 h3
  have kept : ∀ {i : Nat} {p : Addr} {o : O}, Γ1[i]? = some (.ow p o) → (∀ j : Nat, rs[j]? ≠ some (.bw i)) → ∀ a ∈ p :: o.fp, ¬ own (rs.map (argOf Γ1)) a := fun {i p o} e n a ha h => by
    obtain ⟨i', j, q, o', h1, h2, h3⟩ := own_args h
    have := g1.one' e h2 ha h3
    subst this
    exact n j h1
  have val : ∀ {i j : Nat}, rs[j]? = some (.bw i) → ∃ v, vs[j]? = some v ∧ σ[i]? = some (some v) ∧ (vs.map some)[j]? = some (some v) := fun {i j} e => by
    obtain ⟨v, e1, e2⟩ := rr.get e
    exact ⟨v, e1, e2, by rw [List.getElem?_map, e1]; rfl⟩
  have ow2 : ∀ {p}, own (wback Γ1 rs Γa) p → (own Γ1 p ∧ ¬ own (rs.map (argOf Γ1)) p) ∨ own Γa p := fun {p} h => by
    obtain ⟨i, q, o, e, ha⟩ := own_el h
    rcases wback_at nd e with ⟨z1, z2⟩ | ⟨j, z1, z2⟩
    · exact .inl ⟨own_mk z1 ha, kept z1 z2 p ha⟩
    · rcases z2 with z2 | z2
      · exact .inr (own_mk z2 ha)
      · cases z2
  refine ⟨⟨fun c u e n => a.keep c u e fun z => n (sub z), ⟨by rw [wback_len]; exact g1.len, fun i d e => ?_, fun i p o e => ?_, fun i v e => ?_, one_mk fun i i' p p' o o' a' e e' ha hb => ?_, a.rg.tb⟩, fun c h => ?_, im⟩, fun p => ow2⟩
  · rcases wback_at nd e with ⟨z1, z2⟩ | ⟨j, z1, z2⟩
    · obtain ⟨v, q1, q2⟩ := g1.fz _ _ z1
      exact ⟨v, q1, q2.imm im⟩
    · rcases z2 with z2 | z2
      · obtain ⟨v, q1, q2⟩ := a.rg.fz _ _ z2
        obtain ⟨u, w1, w2, w3⟩ := val z1
        rw [w3] at q1; cases q1
        exact ⟨_, w2, q2⟩
      · cases z2
  · rcases wback_at nd e with ⟨z1, z2⟩ | ⟨j, z1, z2⟩
    · obtain ⟨q1, q2⟩ := g1.ow _ _ _ z1
      exact ⟨q1, q2.keepN (fun b hb u h => a.keep _ _ h (kept z1 z2 b hb)) im⟩
    · rcases z2 with z2 | z2
      · obtain ⟨q1, q2⟩ := a.rg.ow _ _ _ z2
        obtain ⟨u, w1, w2, w3⟩ := val z1
        rw [w3] at q1; cases q1
        exact ⟨w2, q2⟩
      · cases z2
  · rcases wback_at nd e with ⟨z1, z2⟩ | ⟨j, z1, z2⟩
    · exact g1.raw _ _ z1
    · rcases z2 with z2 | z2
      · have q1 := a.rg.raw _ _ z2
        obtain ⟨u, w1, w2, w3⟩ := val z1
        rw [w3] at q1; cases q1
        exact w2
      · cases z2
  · have cross : ∀ {i j : Nat} {p q b : Addr} {o o' : O}, Γ1[i]? = some (.ow p o) → (∀ j : Nat, rs[j]? ≠ some (.bw i)) → Γa[j]? = some (.ow q o') → b ∈ p :: o.fp → b ∈ q :: o'.fp → False := fun {i j p q b o o'} z1 z2 z3 h1 h2 => by
      rcases a.sh b (own_mk z3 h2) with q | q
      · exact kept z1 z2 b h1 q
      · exact g1.there (own_mk z1 h1) q
    rcases wback_at nd e with ⟨z1, z2⟩ | ⟨j, z1, z2⟩
    · rcases wback_at nd e' with ⟨z1', z2'⟩ | ⟨j', z1', z2'⟩
      · exact g1.one' z1 z1' ha hb
      · rcases z2' with z2' | z2'
        · exact (cross z1 z2 z2' ha hb).elim
        · cases z2'
    · rcases z2 with z2 | z2
      · rcases wback_at nd e' with ⟨z1', z2'⟩ | ⟨j', z1', z2'⟩
        · exact (cross z1' z2' z2 hb ha).elim
        · rcases z2' with z2' | z2'
          · have := a.rg.one' z2 z2' ha hb
            subst this
            rw [z1] at z1'; cases z1'; rfl
          · cases z2'
      · cases z2
  · rcases ow2 h with ⟨q, _⟩ | q
    · exact .inl q
    · rcases a.sh c q with z | z
      · exact .inl (sub z)
      · exact .inr z
end
section
variable {X : Cx} {CX : CXT} {k : Nat} {f : Addr} {fd : FuncData} {ps : List Str} {sp : SpD} {ds : List Value} {dvs : List V} {x : Str} {p pos : Pos} {e : Expr} {es : List Expr} {t : TAD}
theorem call_ok (ms : MonoSp sp) {n : Nat} {dD : List D} {EX : XK} (hdD : ∀ H, Reps X.K H dD dvs) {σ : Sl} {H : Hp} {Q : VK} {Γ Γ1 : G} {H1 : Hp} {rs : List SV} {vs : List V} (g : RG X.K H σ Γ) (a1 : Aft X.K H Γ H1 σ Γ1) (rr : Ress X.K H σ Γ H1 Γ1 rs vs) (hn : (vs ++ dvs).length = n)
    (nd : bwOk rs = true) (q : sp (rs.map (argOf Γ1) ++ dD.map SV.fz) (fun r Γa => isBw r = false ∧ ∀ v H', Aft X.K H Γ H' σ (wback Γ1 rs Γa) → Res X.K H σ Γ H' (wback Γ1 rs Γa) v r → Q v H') (fun _ _ => False)) : liftSp X.K n sp (vs ++ dvs) H1 Q EX := by
  -- the given arguments and the defaults together
  have nd : (rs.filterMap bwIx).Nodup := of_decide_eq_true nd
  have rr2 : Ress X.K H σ Γ H1 Γ1 (rs ++ dD.map SV.fz) (vs ++ dvs) := by
    have go : ∀ {rs : List SV} {vs : List V}, Ress X.K H σ Γ H1 Γ1 rs vs → Ress X.K H σ Γ H1 Γ1 (rs ++ dD.map SV.fz) (vs ++ dvs) := by
      intro rs
      induction rs with
      | nil =>
        intro vs h
        rw [show vs = [] from h]
        have go2 : ∀ {dD : List D} {dvs : List V}, Reps X.K H1 dD dvs → Ress X.K H σ Γ H1 Γ1 (dD.map SV.fz) dvs := by
          intro dD
          induction dD with
          | nil => intro dvs h; exact h
          | cons d dD ih =>
            intro dvs h
            obtain ⟨v, w, e, h1, h2⟩ := h
            exact ⟨v, w, e, h1, ih h2⟩
        exact go2 (hdD H1)
      | cons r rs ih =>
        intro vs h
        obtain ⟨v, w, rfl, h1, h2⟩ := h
        exact ⟨v, _, rfl, h1, ih h2⟩
    exact go rr
  have nd2 : ((rs ++ dD.map SV.fz).filterMap bwIx).Nodup := by
    rw [List.filterMap_append]
    have : (dD.map SV.fz).filterMap bwIx = [] := by
      rw [List.filterMap_map]
      exact List.filterMap_eq_nil_iff.mpr fun d _ => rfl
    rw [this, List.append_nil]; exact nd
  have em : (rs ++ dD.map SV.fz).map (argOf Γ1) = rs.map (argOf Γ1) ++ dD.map SV.fz := by
    rw [List.map_append, List.map_map]; rfl
  have ew : ∀ Γa : G, wback Γ1 (rs ++ dD.map SV.fz) Γa = wback Γ1 rs Γa := by
    have go3 : ∀ (dD : List D) (Γa : G), wback Γ1 (dD.map SV.fz) Γa = Γ1 := by
      intro dD
      induction dD with
      | nil => intro Γa; rfl
      | cons d dD ih => intro Γa; exact ih _
    have go : ∀ (rs : List SV) (Γa : G), wback Γ1 (rs ++ dD.map SV.fz) Γa = wback Γ1 rs Γa := by
      intro rs
      induction rs with
      | nil => intro Γa; exact go3 dD Γa
      | cons r rs ih =>
        intro Γa
        cases r <;> first | exact ih _ | (show (wback Γ1 (rs ++ dD.map SV.fz) Γa.tail).set _ _ = (wback Γ1 rs Γa.tail).set _ _; rw [ih])
    exact go rs
  refine ⟨hn, (rs ++ dD.map SV.fz).map (argOf Γ1), rg_args a1.rg rr2 nd2, ?_⟩
  rw [em]
  refine ms _ _ _ _ _ (fun r Γa ⟨nb, q⟩ => ?_) (fun _ _ z => z.elim) q
  intro v H2 a2 r2
  rw [← em] at a2 r2
  obtain ⟨a3, ow3⟩ := rg_wback a1.rg rr2 nd2 a2
  rw [ew] at a3 ow3
  have sub : ∀ {p}, own ((rs ++ dD.map SV.fz).map (argOf Γ1)) p → own Γ1 p := fun h => let ⟨i, j, q, o, h1, h2, h3⟩ := own_args h; own_mk h2 h3
  refine q v H2 (a1.trans g a3) ?_
  cases r with
  | no => trivial
  | fz d => exact r2
  | raw u => exact r2
  | bw i => cases nb
  | ow p o =>
    obtain ⟨e, w, n, fr⟩ := r2
    refine ⟨e, w, fun c hc z => ?_, fun c hc => a1.fresh ((fr c hc).imp (fun z => sub z) id)⟩
    rcases ow3 c z with ⟨z1, z2⟩ | z
    · rcases fr c hc with fr | fr
      · exact z2 fr
      · exact a1.rg.there z1 fr
    · exact n c hc z
/-- f(e, ..): dD the defaults that fill up -/
def tdCallD (sp : SpD) (dD : List D) (t : TAD) : TD := fun Γ Q => t Γ fun rs Γ1 => bwOk rs = true ∧ sp (rs.map (argOf Γ1) ++ dD.map SV.fz) (fun r Γa => isBw r = false ∧ Q r (wback Γ1 rs Γa)) (fun _ _ => False)
theorem tdCallD_mono {dD : List D} (ms : MonoSp sp) (ma : MonoA t) : Mono (tdCallD sp dD t) := fun Γ Q Q' hq => ma _ _ _ fun rs Γ1 q => ⟨q.1, ms _ _ _ _ _ (fun r Γa z => ⟨z.1, hq _ _ z.2⟩) (fun _ _ z => z) q.2⟩
theorem pd_callD {n : Nat} {dD : List D} {EX : XK} (F : FnOk X.prog X.w X.K X.mg X.base CX k f fd ps (liftSp X.K n sp)) (ms : MonoSp sp) (hr : Room k X.A) (hg : Gl X x) (hm : X.mg x = some (.ref f)) (hk : PySem.W.keepIn X.K (.ref f) = true) (hb : Binds X.K fd ps ds) (hd : Vals dvs ds)
    (hdD : ∀ H, Reps X.K H dD dvs) (hx : Passes CX X EX) (ha : PAD X (e :: es) t) (hn : (e :: es).length + dD.length = n := by rfl)
    (hdb : (x == ("__debug__" : Str)) = false := by decide) (he : starEach (e :: es) X.env = (false, eval e X.env) :: starEach es X.env := by rfl) (hpl : (backTo pos (starEach es X.env)).any (·.1) = false := by rfl) : PD X (.Call (.Name x p) (e :: es) [] pos) (tdCallD sp dD t) := by
  refine ⟨PE.imp (pe_call F hr hg hm hk hb hd hx ha.run hdb he hpl) fun σ H Q ⟨Γ, g, q⟩ => ⟨Γ, g, ha.mono _ _ _ (fun rs Γ1 q => ?_) (ha.len _ _ q)⟩, tdCallD_mono ms ha.mono⟩
  intro vs H1 a1 rr
  exact call_ok ms hdD g a1 rr (by rw [List.length_append, rr.len, (hdD H1).len, q.1]; exact hn) q.2.1 q.2.2
end
end DL
/-! DL7: statements; targets; while; for; a def's body. -/
namespace DL
open PySem PySem.Spec PyProof.Rows L2

section
variable {K : PySem.W.Frag} {H H1 H' : Hp} {σ : Sl} {Γ Γ' Γ1 : G} {D D' : EndD}
/-- the slot i set -/
theorem rg_set {i : Nat} {v : V} {r : SV} (g : RG K H' σ Γ') (q : Res K H σ Γ H' Γ' v r) (nb : isBw r = false) : RG K H' (σ.set i (some v)) (Γ'.set i r) ∧ ∀ p, own (Γ'.set i r) p → own Γ' p ∨ p ∈ ft r := by
  have at_ : ∀ (j : Nat) (s : SV), (Γ'.set i r)[j]? = some s → (j = i ∧ s = r ∧ i < Γ'.length) ∨ (j ≠ i ∧ Γ'[j]? = some s) := fun j s e => by
    by_cases z : j = i
    · subst z
      rcases Nat.lt_or_ge j Γ'.length with h | h
      · rw [List.getElem?_set_self h] at e
        exact .inl ⟨rfl, (Option.some.inj e).symm, h⟩
      · rw [List.getElem?_eq_none (by rw [List.length_set]; exact h)] at e; cases e
    · rw [List.getElem?_set_ne (Ne.symm z)] at e
      exact .inr ⟨z, e⟩
  have vi : i < Γ'.length → (σ.set i (some v))[i]? = some (some v) := fun h => by rw [List.getElem?_set_self (by rw [← g.len]; exact h)]
  have vo : ∀ {j : Nat} {u : Option V}, j ≠ i → σ[j]? = some u → (σ.set i (some v))[j]? = some u := fun n e => by rw [List.getElem?_set_ne (Ne.symm n)]; exact e
  refine ⟨⟨by rw [List.length_set, List.length_set]; exact g.len, fun j d e => ?_, fun j p o e => ?_, fun j u e => ?_, one_mk fun j j' p p' o o' a e e' ha hb => ?_, g.tb⟩, fun p hp => ?_⟩
  · rcases at_ j _ e with ⟨rfl, z, h⟩ | ⟨n, z⟩
    · subst z; exact ⟨v, vi h, q⟩
    · obtain ⟨u, z1, z2⟩ := g.fz _ _ z
      exact ⟨u, vo n z1, z2⟩
  · rcases at_ j _ e with ⟨rfl, z, h⟩ | ⟨n, z⟩
    · subst z
      obtain ⟨rfl, z2, _⟩ := q
      exact ⟨vi h, z2⟩
    · obtain ⟨z1, z2⟩ := g.ow _ _ _ z
      exact ⟨vo n z1, z2⟩
  · rcases at_ j _ e with ⟨rfl, z, h⟩ | ⟨n, z⟩
    · subst z
      rw [show v = u from q] at vi
      rw [show v = u from q]
      exact vi h
    · exact vo n (g.raw _ _ z)
  · rcases at_ j _ e with ⟨h1, z, h⟩ | ⟨n, z⟩
    · rcases at_ j' _ e' with ⟨h2, z', h'⟩ | ⟨n', z'⟩
      · rw [h1, h2]
      · subst z
        exact absurd (own_mk z' hb) (q.2.2.1 a ha)
    · rcases at_ j' _ e' with ⟨h2, z', h'⟩ | ⟨n', z'⟩
      · subst z'
        exact absurd (own_mk z ha) (q.2.2.1 a hb)
      · exact g.one' z z' ha hb
  · obtain ⟨j, q', o, e, ha⟩ := own_el hp
    rcases at_ j _ e with ⟨_, z, _⟩ | ⟨n, z⟩
    · exact .inr (by rw [← z]; exact ha)
    · exact .inl (own_mk z ha)
theorem aft_set {i : Nat} {v : V} {r : SV} (a : Aft K H Γ H' σ Γ') (q : Res K H σ Γ H' Γ' v r) (nb : isBw r = false) : Aft K H Γ H' (σ.set i (some v)) (Γ'.set i r) := by
  obtain ⟨g, ow⟩ := rg_set (i := i) a.rg q nb
  refine ⟨a.keep, g, fun p h => ?_, a.im⟩
  rcases ow p h with h | h
  · exact a.sh p h
  · cases r with
    | ow p' o => exact q.2.2.2 p h
    | no => cases h
    | fz d => cases h
    | raw v => cases h
    | bw j => cases h
end
section
variable {X : Cx} {st : Stmt} {rest : List Stmt} {t u : TSD} {e : Expr} {te : TD} {pos : Pos}

/-! ### blocks -/
def tsNext : TSD := fun D Γ => D.nx Γ
def tsSeq (t u : TSD) : TSD := fun D Γ => t { D with nx := u D } Γ
theorem EndD.Le.nxt {D D' : EndD} (h : D.Le D') {u : TSD} (m : MonoS u) : EndD.Le { D with nx := u D } { D' with nx := u D' } := ⟨fun Γ q => m _ _ _ h q, h.rt, h.bk, h.ct, h.xt⟩
theorem pds_nil : PDSs X [] tsNext := ⟨fun W tk => PSs.imp pss_nil fun D σ H ⟨Γ, g, q⟩ => q σ H (Aft.refl g), fun D D' Γ h q => h.nx _ q⟩
/-- the ends of later code, from further on -/
theorem liftD_le {K : PySem.W.Frag} {W : WX} {H H1 : Hp} {σ σ1 : Sl} {Γ Γ1 : G} {D : Ends} (g : RG K H σ Γ) (a : Aft K H Γ H1 σ1 Γ1) : (liftD K W Γ H D).Le (liftD K W Γ1 H1 D) where
  nx := fun Γ' q σ' H' a' => q σ' H' (a.trans g a')
  rt := fun r Γ' q v σ' H' a' r' => q v σ' H' (a.trans g a') (r'.from a)
  bk := fun Γ' q σ' H' a' => q σ' H' (a.trans g a')
  ct := fun Γ' q σ' H' a' => q σ' H' (a.trans g a')
  xt := fun x Γ' q c d σ' H' a' => q c d σ' H' (a.trans g a')
theorem pds_cons (h1 : PDS X st t) (h2 : PDSs X rest u) : PDSs X (st :: rest) (tsSeq t u) := by
  refine ⟨fun W tk => PSs.imp (pss_cons (h1.run W tk) (h2.run W tk)) fun D σ H ⟨Γ, g, q⟩ => ⟨Γ, g, h1.mono _ _ _ ?_ q⟩, fun D D' Γ h q => h1.mono _ _ _ (h.nxt h2.mono) q⟩
  refine ⟨fun Γ1 q σ1 H1 a1 => ?_, fun r Γ' q => q, fun Γ' q => q, fun Γ' q => q, fun x Γ' q => q⟩
  exact ⟨Γ1, a1.rg, h2.mono _ _ _ (liftD_le g a1) q⟩
theorem pds_one (h1 : PDS X st t) : PDSs X [st] t := ⟨fun W tk => pss_one (h1.run W tk), h1.mono⟩
def tsNever : TSD := fun _ _ => False
theorem pd_never : PDS X st tsNever := ⟨fun W tk => PS.imp ps_never fun D σ H ⟨Γ, g, q⟩ => q.elim, fun _ _ _ _ q => q⟩
theorem pds_never {sts : List Stmt} : PDSs X sts tsNever := ⟨fun W tk => PSs.imp pss_never fun D σ H ⟨Γ, g, q⟩ => q.elim, fun _ _ _ _ q => q⟩
theorem pd_pass : PDS X (.Pass pos) tsNext := ⟨fun W tk => PS.imp ps_pass fun D σ H ⟨Γ, g, q⟩ => q σ H (Aft.refl g), fun D D' Γ h q => h.nx _ q⟩
def tsBreak : TSD := fun D Γ => D.bk Γ
def tsCont : TSD := fun D Γ => D.ct Γ
theorem pd_break : PDS X (.Break pos) tsBreak := ⟨fun W tk => PS.imp ps_break fun D σ H ⟨Γ, g, q⟩ => q σ H (Aft.refl g), fun D D' Γ h q => h.bk _ q⟩
theorem pd_continue : PDS X (.Continue pos) tsCont := ⟨fun W tk => PS.imp ps_continue fun D σ H ⟨Γ, g, q⟩ => q σ H (Aft.refl g), fun D D' Γ h q => h.ct _ q⟩
/-- an expression whose value is dropped -/
def tsDrop (te : TD) : TSD := fun D Γ => te Γ fun _ Γ' => D.nx Γ'
theorem pd_expr (he : PD X e te) (hs : swapsWith e none pos.line X.env = pure false := by rfl) : PDS X (.Expr e pos) (tsDrop te) :=
  ⟨fun W tk => PS.imp (ps_expr he.run hs) fun D σ H ⟨Γ, g, q⟩ => ⟨Γ, g, he.mono _ _ _ (fun r Γ' q v H' a rs => q σ H' a) q⟩, fun D D' Γ h => he.mono _ _ _ fun r Γ' => h.nx _⟩
/-- return -/
def tsRet (te : TD) : TSD := fun D Γ => te Γ fun r Γ' => match r with
  | .bw i => (match Γ'[i]? with
    | some (.ow p o) => D.rt (.ow p o) (Γ'.set i .no)
    | _ => False)
  | r => D.rt r Γ'
theorem pd_ret (he : PD X e te) : PDS X (.Return (some e) pos) (tsRet te) := by
  refine ⟨fun W tk => PS.imp (ps_ret he.run) fun D σ H ⟨Γ, g, q⟩ => ⟨Γ, g, he.mono _ _ _ (fun r Γ' q v H' a rs => ?_) q⟩, fun D D' Γ h => he.mono _ _ _ fun r Γ' q => ?_⟩
  · split at q
    · split at q
      · rename_i p o e
        obtain ⟨z1, z2⟩ := a.rg.ow _ _ _ e
        have ev := (show σ[(_ : Nat)]? = some (some v) from rs).symm.trans z1
        cases ev
        obtain ⟨g1, n1⟩ := rg_drop a.rg (sv := .no) e (Imm.refl H') (fun _ _ _ z => z) (fun _ _ z => by cases z) (fun _ z => by cases z) (fun _ z => by cases z)
        exact q _ σ H' ⟨a.keep, g1, fun c z => a.sh c (n1 c z).1, a.im⟩ ⟨rfl, z2, fun c hc z => (n1 _ z).2 hc, fun c hc => a.sh c (own_mk e hc)⟩
      · exact q.elim
    · exact q v σ H' a rs
  · split at q
    · split at q
      · exact h.rt _ _ q
      · exact q
    · exact h.rt _ _ q
def tsRetN : TSD := fun D Γ => D.rt (.fz .none) Γ
theorem pd_retN : PDS X (.Return none pos) tsRetN := ⟨fun W tk => PS.imp ps_retN fun D σ H ⟨Γ, g, q⟩ => q .non σ H (Aft.refl g) rfl, fun D D' Γ h q => h.rt _ _ q⟩
def tsIf (c : TB) (t u : TSD) : TSD := fun D Γ => c Γ fun b Γ' => Br b (t D Γ') (u D Γ')
theorem pd_if {c : Expr} {a b : List Stmt} {tc : TB} (hc : PB X c tc) (ha : PDSs X a t) (hb : PDSs X b u) : PDS X (.If c a b pos) (tsIf tc t u) := by
  refine ⟨fun W tk => PS.imp (ps_if hc.run (ha.run W tk) (hb.run W tk)) fun D σ H ⟨Γ, g, q⟩ => ⟨Γ, g, hc.mono _ _ _ (fun k Γ' q H' a => ?_) q⟩, fun D D' Γ h => hc.mono _ _ _ fun k Γ' q => ?_⟩
  · rw [br_iff] at q
    split at q
    · rename_i e; rw [if_pos e]; exact ⟨Γ', a.rg, ha.mono _ _ _ (liftD_le g a) q⟩
    · rename_i e; rw [if_neg e]; exact ⟨Γ', a.rg, hb.mono _ _ _ (liftD_le g a) q⟩
  · rw [br_iff] at q ⊢
    split at q
    · rename_i e; rw [if_pos e]; exact ha.mono _ _ _ h q
    · rename_i e; rw [if_neg e]; exact hb.mono _ _ _ h q

/-! ### targets -/
/-- name = e -/
def tsSet (i : Nat) (te : TD) : TSD := fun D Γ => te Γ fun r Γ' => isBw r = false ∧ D.nx (Γ'.set i r)
theorem pd_set (i : Nat) {x : Str} {pos' : Pos} (he : PD X e te) (hN : X.N.Nodup) (hi : X.N[i]? = some x := by rfl) (hx : Loc X.env.scope x := by first | exact Or.inl rfl | exact Or.inr rfl)
    (hs : swapsWith e (some (.Name x pos')) pos.line X.env = pure false := by rfl) (hf : X.fn x = true ∨ X.env.scope.names.lookup x = some .local := by first | exact .inl rfl | exact .inr rfl) : PDS X (.Assign [.Name x pos'] e pos) (tsSet i te) := by
  refine ⟨fun W tk => PS.imp (ps_set hN hi hx he.run hs hf) fun D σ H ⟨Γ, g, q⟩ => ⟨Γ, g, he.mono _ _ _ (fun r Γ' q v H' a rs => ?_) q⟩, fun D D' Γ h => he.mono _ _ _ fun r Γ' q => ⟨q.1, h.nx _ q.2⟩⟩
  exact q.2 _ H' (aft_set a rs q.1)
/-- data into a target -/
abbrev TGD := D → G → (G → Prop) → Prop
def liftG (K : PySem.W.Frag) (t : TGD) : TG := fun v σ H Q => ∃ Γ d, RG K H σ Γ ∧ Rep K H d v ∧ t d Γ fun Γ' => ∀ σ' H', Aft K H Γ H' σ' Γ' → Q σ' H'
structure PGD (X : Cx) (tg : Expr) (t : TGD) : Prop where
  run : PG X tg (liftG X.K t)
  mono : ∀ d Γ (Q Q' : G → Prop), (∀ Γ', Q Γ' → Q' Γ') → t d Γ Q → t d Γ Q'
theorem PG.imp {X : Cx} {tg : Expr} {t t' : TG} (h : PG X tg t) (hi : ∀ v σ H Q, t' v σ H Q → t v σ H Q) : PG X tg t' := ⟨fun pins s σ H v u Q I r q => h.run pins s σ H v u Q I r (hi _ _ _ _ q)⟩
def tgName (i : Nat) : TGD := fun d Γ Q => Q (Γ.set i (.fz d))
theorem pgd_name (i : Nat) {x : Str} (hN : X.N.Nodup) (hi : X.N[i]? = some x := by rfl) (hx : Loc X.env.scope x := by first | exact Or.inl rfl | exact Or.inr rfl) (hf : X.fn x = true ∨ X.env.scope.names.lookup x = some .local := by first | exact .inl rfl | exact .inr rfl) :
    PGD X (.Name x pos) (tgName i) :=
  ⟨PG.imp (pg_name hN hi hx hf) fun v σ H Q ⟨Γ, d, g, r, q⟩ => q _ H (aft_set (Aft.refl g) (r := .fz d) (show Res X.K H σ Γ H Γ v (.fz d) from r) rfl), fun d Γ Q Q' h q => h _ q⟩
abbrev TGsD := List D → G → (G → Prop) → Prop
def liftGs (K : PySem.W.Frag) (t : TGsD) : TGs := fun vs σ H Q => ∃ Γ ds, RG K H σ Γ ∧ Reps K H ds vs ∧ t ds Γ fun Γ' => ∀ σ' H', Aft K H Γ H' σ' Γ' → Q σ' H'
structure PGsD (X : Cx) (tgs : List Expr) (t : TGsD) : Prop where
  run : PGs X tgs (liftGs X.K t)
  mono : ∀ d Γ (Q Q' : G → Prop), (∀ Γ', Q Γ' → Q' Γ') → t d Γ Q → t d Γ Q'
theorem PGs.imp {X : Cx} {tg : List Expr} {t t' : TGs} (h : PGs X tg t) (hi : ∀ v σ H Q, t' v σ H Q → t v σ H Q) : PGs X tg t' := ⟨fun pins s σ H v u Q I r q => h.run pins s σ H v u Q I r (hi _ _ _ _ q)⟩
def tgNil : TGsD := fun ds Γ Q => match ds with
  | [] => Q Γ
  | _ => False
def tgCons (t : TGD) (u : TGsD) : TGsD := fun ds Γ Q => match ds with
  | d :: r => t d Γ fun Γ' => u r Γ' Q
  | _ => False
theorem pgsd_nil : PGsD X [] tgNil := by
  refine ⟨PGs.imp pgs_nil fun vs σ H Q ⟨Γ, ds, g, r, q⟩ => ?_, fun d Γ Q Q' h q => ?_⟩
  · unfold tgNil at q
    split at q
    · exact ⟨r, q σ H (Aft.refl g)⟩
    · exact q.elim
  · unfold tgNil at q ⊢
    split at q
    · exact h _ q
    · exact q
theorem pgsd_cons {e : Expr} {es : List Expr} {t : TGD} {u : TGsD} (h1 : PGD X e t) (h2 : PGsD X es u)
    (hs : (assignEach (e :: es) X.env).map (·.2) = assign e X.env :: (assignEach es X.env).map (·.2) := by rfl) : PGsD X (e :: es) (tgCons t u) := by
  refine ⟨PGs.imp (pgs_cons h1.run h2.run hs) fun vs σ H Q ⟨Γ, ds, g, r, q⟩ => ?_, fun d Γ Q Q' h q => ?_⟩
  · unfold tgCons at q
    split at q
    · obtain ⟨v, w, rfl, r1, r2⟩ := r
      refine ⟨v, w, rfl, Γ, _, g, r1, h1.mono _ _ _ _ (fun Γ' q => ?_) q⟩
      intro σ' H' a
      exact ⟨Γ', _, a.rg, r2.imm (a.imm g), h2.mono _ _ _ _ (fun Γ2 q σ2 H2 a2 => q σ2 H2 (a.trans g a2)) q⟩
    · exact q.elim
  · unfold tgCons at q ⊢
    split at q
    · exact h1.mono _ _ _ _ (fun Γ' => h2.mono _ _ _ _ h) q
    · exact q
def tgTup (n : Nat) (t : TGsD) : TGD := fun d Γ Q => match d with
  | .tuple ds => ds.length = n ∧ t ds Γ Q
  | _ => False
theorem pgd_tup {es : List Expr} {k : Nat} {t : TGsD} {n : Nat} (hc : X.calm = true) (h : PGsD X es t) (hn : (assignEach es X.env).length = n := by rfl) (hst : (assignEach es X.env).findIdx? (·.1) = none := by rfl) : PGD X (.Tuple es k pos) (tgTup n t) := by
  refine ⟨PG.imp (pg_tup hc h.run hn hst) fun v σ H Q ⟨Γ, d, g, r, q⟩ => ?_, fun d Γ Q Q' hq q => ?_⟩
  · unfold tgTup at q
    split at q
    · obtain ⟨a, vs, rfl, h1, h2⟩ := r
      exact ⟨a, vs, rfl, h1.sq, h2.len.trans q.1, Γ, _, g, h2, q.2⟩
    · exact q.elim
  · unfold tgTup at q ⊢
    split at q
    · exact ⟨q.1, h.mono _ _ _ _ hq q.2⟩
    · exact q
/-- target = e, data -/
def tsAsg (te : TD) (tg : TGD) : TSD := fun D Γ => te Γ fun r Γ' => match r with
  | .fz d => tg d Γ' D.nx
  | _ => False
theorem pd_asg {tg : Expr} {tgd : TGD} (he : PD X e te) (hg : PGD X tg tgd) (hs : swapsWithSole [tg] e pos.line X.env = pure false := by rfl) (hw : swappedStores [tg] e X.env = pure none := by rfl)
    (h1 : (assignEach [tg] X.env).map (·.2) = [assign tg X.env] := by rfl) : PDS X (.Assign [tg] e pos) (tsAsg te tgd) := by
  refine ⟨fun W tk => PS.imp (ps_asg he.run hg.run hs hw h1) fun D σ H ⟨Γ, g, q⟩ => ⟨Γ, g, he.mono _ _ _ (fun r Γ' q v H' a rs => ?_) q⟩, fun D D' Γ h => he.mono _ _ _ fun r Γ' q => ?_⟩
  · split at q
    · exact ⟨Γ', _, a.rg, rs, hg.mono _ _ _ _ (fun Γ2 q σ2 H2 a2 => q σ2 H2 (a.trans g a2)) q⟩
    · exact q.elim
  · split at q
    · exact hg.mono _ _ _ _ h.nx q
    · exact q
/-- a, b = x, y into plain locals -/
def tsPar (i j : Nat) (ta : TAD) : TSD := fun D Γ => ta Γ fun rs Γ' => fzs rs fun ds => match ds with
  | [d, e] => D.nx ((Γ'.set i (.fz d)).set j (.fz e))
  | _ => False
theorem pd_par (i j : Nat) {x y : Str} {a b : Expr} {ta : TAD} {px py pt : Pos} {kt k2 pt2} (hc : X.calm = true) (hN : X.N.Nodup) (ha : PAD X [a, b] ta) (hw : swappedStores [.Tuple [.Name x px, .Name y py] kt pt] (.Tuple [a, b] k2 pt2) X.env = pure (some [x, y]) := by rfl)
    (hi : X.N[i]? = some x := by rfl) (hj : X.N[j]? = some y := by rfl) (hij : i ≠ j := by decide) (hx : X.env.scope.names.lookup x = some .local := by rfl) (hy : X.env.scope.names.lookup y = some .local := by rfl)
    (hs : swapsWithSole [.Tuple [.Name x px, .Name y py] kt pt] (.Tuple [a, b] k2 pt2) pos.line X.env = pure false := by rfl) : PDS X (.Assign [.Tuple [.Name x px, .Name y py] kt pt] (.Tuple [a, b] k2 pt2) pos) (tsPar i j ta) := by
  refine ⟨fun W tk => PS.imp (ps_par hc hN hi hj hij hx hy ha.run hw hs) fun D σ H ⟨Γ, g, q⟩ => ⟨Γ, g, ha.mono _ _ _ (fun rs Γ' q vs H' a rr => ?_) q⟩, fun D D' Γ h => ha.mono _ _ _ fun rs Γ' => fzs_mono fun ds q => ?_⟩
  · obtain ⟨ds, rp, q⟩ := fzs_ok rr q
    split at q
    · obtain ⟨v, w, rfl, r1, w', w2, rfl, r2, e3⟩ := rp
      rw [show w2 = [] from e3]
      refine ⟨v, w', rfl, q _ H' ?_⟩
      have a1 := aft_set (i := i) a (r := .fz _) (show Res X.K H σ Γ H' Γ' v (.fz _) from r1) rfl
      exact aft_set (i := j) a1 (r := .fz _) (show Res X.K H _ Γ H' _ w' (.fz _) from r2) rfl
    · exact q.elim
  · split at q
    · exact h.nx _ q
    · exact q
/-- name += e: ints -/
def tsAug (i : Nat) (g : Int → Int → Int) (te : TD) : TSD := fun D Γ => match Γ[i]? with
  | some (.fz (.int a)) => te Γ fun r Γ' => (match r with
    | .fz (.int b) => D.nx (Γ'.set i (.fz (.int (g a b))))
    | _ => False)
  | _ => False
theorem pd_aug {op : Operator} {f : Int → Int → Int} (i : Nat) {x : Str} {pos' : Pos} (he : PD X e te) (ho : PIp X op (ipI f)) (hN : X.N.Nodup) (hi : X.N[i]? = some x := by rfl) (hx : Loc X.env.scope x := by first | exact Or.inl rfl | exact Or.inr rfl)
    (hf : X.fn x = true ∨ X.env.scope.names.lookup x = some .local := by first | exact .inl rfl | exact .inr rfl) : PDS X (.AugAssign (.Name x pos') op e pos) (tsAug i f te) := by
  refine ⟨fun W tk => PS.imp (ps_aug hN hi hx he.run ho hf) fun D σ H ⟨Γ, g, q⟩ => ?_, fun D D' Γ h q => ?_⟩
  · unfold tsAug at q
    split at q
    · rename_i a ea
      obtain ⟨v, e1, e2⟩ := g.fz _ _ ea
      rw [show v = V.int a from e2] at e1
      refine ⟨_, e1, Γ, g, he.mono _ _ _ (fun r Γ' q v H' af rs => ?_) q⟩
      split at q
      · exact ⟨a, _, rfl, rs, q _ H' (aft_set af (r := .fz _) (show Res X.K H σ Γ H' Γ' (.int (f a _)) (.fz (.int (f a _))) from rfl) rfl)⟩
      · exact q.elim
    · exact q.elim
  · unfold tsAug at q ⊢
    split at q
    · refine he.mono _ _ _ (fun r Γ' q => ?_) q
      split at q
      · exact h.nx _ q
      · exact q
    · exact q

/-! ### while -/
structure MonoW (c : TB) (tb : TSD) : Prop where
  mc : MonoB c
  mb : MonoS tb
/-- inv: the word, with a measure -/
structure WhR (E : EndD) (Γ : G) (c : TB) (tb : TSD) : Prop where
  out : ∃ inv : Nat → G → Prop, (∃ m, inv m Γ) ∧ ∀ m Γ, inv m Γ → c Γ fun k Γ' => Br k (tb { E with nx := fun Γ2 => ∃ m', m' < m ∧ inv m' Γ2, ct := fun Γ2 => ∃ m', m' < m ∧ inv m' Γ2, bk := E.nx } Γ') (E.nx Γ')
def tsWhile (c : TB) (tb : TSD) : TSD := fun E Γ => MonoW c tb → WhR E Γ c tb
theorem pd_while {c : Expr} {body : List Stmt} {tc : TB} {tb : TSD} (hp : PassesOwn (model X.prog X.w) X.A X.env X.xe) (hc : PB X c tc) (hb : PDSs X body tb) : PDS X (.While c body [] pos) (tsWhile tc tb) := by
  refine ⟨fun W tk => PS.imp (ps_while hp hc.run (hb.run W tk)) fun D σ H ⟨Γ, g, q⟩ => ?_, fun D D' Γ h q mw => ?_⟩
  · obtain ⟨inv, ⟨m0, i0⟩, turn⟩ := (q ⟨hc.mono, hb.mono⟩).out
    refine ⟨fun m σ' H' => ∃ Γ', Aft X.K H Γ H' σ' Γ' ∧ inv m Γ', ⟨m0, Γ, Aft.refl g, i0⟩, ?_⟩
    rintro m σ1 H1 ⟨Γ1, a1, i1⟩
    refine ⟨Γ1, a1.rg, hc.mono _ _ _ (fun k Γ2 q H2 a2 => ?_) (turn m Γ1 i1)⟩
    have a12 := a1.trans g a2
    rw [br_iff] at q
    split at q
    · rename_i e
      show if k = true then _ else _
      rw [if_pos e]
      refine ⟨fun σ' H' => ∃ m', m' < m ∧ ∃ Γ', Aft X.K H Γ H' σ' Γ' ∧ inv m' Γ', fun σ' H' z => z, Γ2, a2.rg, hb.mono _ _ _ ?_ q⟩
      refine ⟨fun Γ3 ⟨m', lt, i3⟩ σ3 H3 a3 => ⟨m', lt, Γ3, a12.trans g a3, i3⟩, fun r Γ3 q v σ3 H3 a3 rs => q v σ3 H3 (a12.trans g a3) (rs.from a12), fun Γ3 q σ3 H3 a3 => q σ3 H3 (a12.trans g a3), fun Γ3 ⟨m', lt, i3⟩ σ3 H3 a3 => ⟨m', lt, Γ3, a12.trans g a3, i3⟩, fun x Γ3 q c d σ3 H3 a3 => q c d σ3 H3 (a12.trans g a3)⟩
    · rename_i e
      show if k = true then _ else _
      rw [if_neg e]
      exact q σ1 H2 a12
  · obtain ⟨inv, i0, turn⟩ := (q mw).out
    refine ⟨⟨inv, i0, fun m Γ1 i1 => hc.mono _ _ _ (fun k Γ' q => ?_) (turn m Γ1 i1)⟩⟩
    rw [br_iff] at q ⊢
    split at q
    · rename_i e; rw [if_pos e]
      refine hb.mono _ _ _ ?_ q
      exact ⟨fun _ z => z, h.rt, h.nx, fun _ z => z, h.xt⟩
    · rename_i e; rw [if_neg e]; exact h.nx _ q
end

/-! ### a def's body -/
def back : G → G → G
  | [], _ => []
  | .ow p _ :: Γ, .ow q o :: Γ' => (if q = p then .ow p o else .no) :: back Γ Γ'
  | .ow _ _ :: Γ, _ :: Γ' => .no :: back Γ Γ'
  | .ow _ _ :: Γ, [] => .no :: back Γ []
  | s :: Γ, Γ' => s :: back Γ Γ'.tail
theorem back_ow {Q : SV → G → Prop} {r : SV} {p : Addr} {o o' : O} {Γ Γ' : G} (h : Q r (.ow p o' :: back Γ Γ')) : Q r (back (.ow p o :: Γ) (.ow p o' :: Γ')) := by
  have e : back (.ow p o :: Γ) (.ow p o' :: Γ') = (if p = p then .ow p o' else .no) :: back Γ Γ' := rfl
  rw [e, if_pos rfl]
  exact h
theorem back_len : ∀ {Γ Γ' : G}, (back Γ Γ').length = Γ.length
  | [], _ => rfl
  | .ow p _ :: Γ, .ow q o :: Γ' => by simp [back, back_len (Γ := Γ) (Γ' := Γ')]
  | .ow _ _ :: Γ, .no :: Γ' => by simp [back, back_len (Γ := Γ) (Γ' := Γ')]
  | .ow _ _ :: Γ, .fz _ :: Γ' => by simp [back, back_len (Γ := Γ) (Γ' := Γ')]
  | .ow _ _ :: Γ, .raw _ :: Γ' => by simp [back, back_len (Γ := Γ) (Γ' := Γ')]
  | .ow _ _ :: Γ, .bw _ :: Γ' => by simp [back, back_len (Γ := Γ) (Γ' := Γ')]
  | .ow _ _ :: Γ, [] => by simp [back, back_len (Γ := Γ) (Γ' := [])]
  | .no :: Γ, Γ' => by simp [back, back_len (Γ := Γ) (Γ' := Γ'.tail)]
  | .fz _ :: Γ, Γ' => by simp [back, back_len (Γ := Γ) (Γ' := Γ'.tail)]
  | .raw _ :: Γ, Γ' => by simp [back, back_len (Γ := Γ) (Γ' := Γ'.tail)]
  | .bw _ :: Γ, Γ' => by simp [back, back_len (Γ := Γ) (Γ' := Γ'.tail)]
theorem back_at : ∀ {Γ Γ' : G} {i : Nat} {s : SV}, (back Γ Γ')[i]? = some s → s = .no ∨ (∃ p o o', Γ[i]? = some (.ow p o') ∧ Γ'[i]? = some (.ow p o) ∧ s = .ow p o) ∨ (Γ[i]? = some s ∧ ∀ p o, s ≠ .ow p o)
  | [], _, _, _, h => by simp [back] at h
  | .ow p o' :: Γ, .ow q o :: Γ', 0, s, h => by
    simp only [back, List.getElem?_cons_zero, Option.some.injEq] at h
    split at h
    · rename_i e
      subst e
      exact .inr (.inl ⟨_, o, o', rfl, rfl, h.symm⟩)
    · exact .inl h.symm
  | .ow _ _ :: Γ, .no :: Γ', 0, s, h => .inl (by simpa [back] using h.symm)
  | .ow _ _ :: Γ, .fz _ :: Γ', 0, s, h => .inl (by simpa [back] using h.symm)
  | .ow _ _ :: Γ, .raw _ :: Γ', 0, s, h => .inl (by simpa [back] using h.symm)
  | .ow _ _ :: Γ, .bw _ :: Γ', 0, s, h => .inl (by simpa [back] using h.symm)
  | .ow _ _ :: Γ, [], 0, s, h => .inl (by simpa [back] using h.symm)
  | .no :: Γ, Γ', 0, s, h => .inl (by simpa [back] using h.symm)
  | .fz d :: Γ, Γ', 0, s, h => by
    have e : SV.fz d = s := by simpa [back] using h
    exact .inr (.inr ⟨by rw [← e]; rfl, fun p o z => by rw [← e] at z; cases z⟩)
  | .raw d :: Γ, Γ', 0, s, h => by
    have e : SV.raw d = s := by simpa [back] using h
    exact .inr (.inr ⟨by rw [← e]; rfl, fun p o z => by rw [← e] at z; cases z⟩)
  | .bw d :: Γ, Γ', 0, s, h => by
    have e : SV.bw d = s := by simpa [back] using h
    exact .inr (.inr ⟨by rw [← e]; rfl, fun p o z => by rw [← e] at z; cases z⟩)
  | .ow p o' :: Γ, .ow q o :: Γ', i + 1, s, h => by simpa using back_at (Γ := Γ) (Γ' := Γ') (i := i) (s := s) (by simpa [back] using h)
  | .ow _ _ :: Γ, .no :: Γ', i + 1, s, h => by simpa using back_at (Γ := Γ) (Γ' := Γ') (i := i) (s := s) (by simpa [back] using h)
  | .ow _ _ :: Γ, .fz _ :: Γ', i + 1, s, h => by simpa using back_at (Γ := Γ) (Γ' := Γ') (i := i) (s := s) (by simpa [back] using h)
  | .ow _ _ :: Γ, .raw _ :: Γ', i + 1, s, h => by simpa using back_at (Γ := Γ) (Γ' := Γ') (i := i) (s := s) (by simpa [back] using h)
  | .ow _ _ :: Γ, .bw _ :: Γ', i + 1, s, h => by simpa using back_at (Γ := Γ) (Γ' := Γ') (i := i) (s := s) (by simpa [back] using h)
  | .ow _ _ :: Γ, [], i + 1, s, h => by simpa using back_at (Γ := Γ) (Γ' := []) (i := i) (s := s) (by simpa [back] using h)
  | .no :: Γ, [], i + 1, s, h => by simpa using back_at (Γ := Γ) (Γ' := []) (i := i) (s := s) (by simpa [back] using h)
  | .fz d :: Γ, [], i + 1, s, h => by simpa using back_at (Γ := Γ) (Γ' := []) (i := i) (s := s) (by simpa [back] using h)
  | .raw d :: Γ, [], i + 1, s, h => by simpa using back_at (Γ := Γ) (Γ' := []) (i := i) (s := s) (by simpa [back] using h)
  | .bw d :: Γ, [], i + 1, s, h => by simpa using back_at (Γ := Γ) (Γ' := []) (i := i) (s := s) (by simpa [back] using h)
  | .no :: Γ, g :: Γ', i + 1, s, h => by simpa using back_at (Γ := Γ) (Γ' := Γ') (i := i) (s := s) (by simpa [back] using h)
  | .fz d :: Γ, g :: Γ', i + 1, s, h => by simpa using back_at (Γ := Γ) (Γ' := Γ') (i := i) (s := s) (by simpa [back] using h)
  | .raw d :: Γ, g :: Γ', i + 1, s, h => by simpa using back_at (Γ := Γ) (Γ' := Γ') (i := i) (s := s) (by simpa [back] using h)
  | .bw d :: Γ, g :: Γ', i + 1, s, h => by simpa using back_at (Γ := Γ) (Γ' := Γ') (i := i) (s := s) (by simpa [back] using h)
/-- behind the body: what the arguments hold -/
theorem aft_back {K : PySem.W.Frag} {H H' : Hp} {vs : List V} {Γ Γ' : G} {n : Nat} {σ' : Sl} (g : RG K H (vs.map some) Γ) (a : Aft K H (Γ ++ List.replicate n .no) H' σ' Γ') :
    Aft K H Γ H' (vs.map some) (back Γ Γ') ∧ ∀ p, own (back Γ Γ') p → own Γ' p := by
  have ownA : ∀ p, own (Γ ++ List.replicate n .no) p → own Γ p := fun p hp => by
    obtain ⟨i, q, o, e, ha⟩ := own_el hp
    rcases Nat.lt_or_ge i Γ.length with h | h
    · rw [List.getElem?_append_left h] at e; exact own_mk e ha
    · rw [List.getElem?_append_right h] at e
      have := List.mem_of_getElem? e
      rw [List.mem_replicate] at this
      cases this.2
  have im : Imm H H' := a.im
  have ow2 : ∀ p, own (back Γ Γ') p → own Γ' p := fun p hp => by
    obtain ⟨i, q, o, e, ha⟩ := own_el hp
    rcases back_at e with z | ⟨q, o1, o2, _, z2, z3⟩ | ⟨_, z⟩
    · cases z
    · cases z3; exact own_mk z2 ha
    · exact absurd rfl (z _ _)
  refine ⟨⟨fun c u e n => a.keep c u e fun z => n (ownA c z), ⟨by rw [back_len]; exact g.len, fun i d e => ?_, fun i p o e => ?_, fun i v e => ?_, one_mk fun i j p p' o o' b e e' ha hb => ?_, a.rg.tb⟩, fun c q => ?_, im⟩, ow2⟩
  · rcases back_at e with z | ⟨q, o1, o2, _, z2, z3⟩ | ⟨z, _⟩
    · cases z
    · cases z3
    · obtain ⟨v, h1, h2⟩ := g.fz _ _ z
      exact ⟨v, h1, h2.imm im⟩
  · rcases back_at e with z | ⟨q, o1, o2, z1, z2, z3⟩ | ⟨_, z⟩
    · cases z
    · cases z3
      exact ⟨(g.ow _ _ _ z1).1, (a.rg.ow _ _ _ z2).2⟩
    · exact absurd rfl (z _ _)
  · rcases back_at e with z | ⟨q, o1, o2, _, z2, z3⟩ | ⟨z, _⟩
    · cases z
    · cases z3
    · exact g.raw _ _ z
  · rcases back_at e with z | ⟨q, o1, o2, z1, z2, z3⟩ | ⟨_, z⟩
    · cases z
    · cases z3
      rcases back_at e' with z | ⟨q', o1', o2', z1', z2', z3'⟩ | ⟨_, z⟩
      · cases z
      · cases z3'
        exact a.rg.one' z2 z2' ha hb
      · exact absurd rfl (z _ _)
    · exact absurd rfl (z _ _)
  · rcases a.sh c (ow2 c q) with z | z
    · exact .inl (ownA c z)
    · exact .inr z
/-- what the body is to reach -/
def fin (Γ : G) (Q : SV → G → Prop) : EndD := { nx := fun Γ' => Q (.fz .none) (back Γ Γ'), rt := fun r Γ' => isBw r = false ∧ Q r (back Γ Γ') }
section
variable {P : Program} {w : World} {K : PySem.W.Frag} {mg : Str → Option Value} {base : Heap}
theorem rg_start {H : Hp} {vs : List V} {Γ : G} {N : List Str} (g : RG K H (vs.map some) Γ) : RG K H (L2.start N vs) (Γ ++ List.replicate (N.length - Γ.length) .no) := by
  have hl : Γ.length = vs.length := by rw [g.len, List.length_map]
  have lo : ∀ {i : Nat} {s : SV}, (Γ ++ List.replicate (N.length - Γ.length) SV.no)[i]? = some s → s ≠ .no → Γ[i]? = some s := fun {i s} e n => by
    rcases Nat.lt_or_ge i Γ.length with h | h
    · rw [List.getElem?_append_left h] at e; exact e
    · rw [List.getElem?_append_right h] at e
      have := List.mem_of_getElem? e
      rw [List.mem_replicate] at this
      exact absurd this.2 n
  have up : ∀ {i : Nat} {v : V}, (vs.map some)[i]? = some (some v) → (L2.start N vs)[i]? = some (some v) := fun {i v} e => by
    unfold L2.start
    have h : i < (vs.map some).length := by
      rcases Nat.lt_or_ge i (vs.map some).length with h | h
      · exact h
      · rw [List.getElem?_eq_none h] at e; cases e
    rw [List.getElem?_append_left h]; exact e
  refine ⟨by unfold L2.start; simp only [List.length_append, List.length_map, List.length_replicate]; rw [hl], fun i d e => ?_, fun i p o e => ?_, fun i v e => ?_, one_mk fun i j p p' o o' b e e' ha hb => ?_, g.tb⟩
  · obtain ⟨v, h1, h2⟩ := g.fz _ _ (lo e (by intro z; cases z))
    exact ⟨v, up h1, h2⟩
  · obtain ⟨h1, h2⟩ := g.ow _ _ _ (lo e (by intro z; cases z))
    exact ⟨up h1, h2⟩
  · exact up (g.raw _ _ (lo e (by intro z; cases z)))
  · exact g.one' (lo e (by intro z; cases z)) (lo e' (by intro z; cases z)) ha hb
/-- .. of a def that may raise -/
def finX (Γ : G) (Q : SV → G → Prop) (E : XD → G → Prop) : EndD := { nx := fun Γ' => Q (.fz .none) (back Γ Γ'), rt := fun r Γ' => isBw r = false ∧ Q r (back Γ Γ'), xt := fun x Γ' => E x (back Γ Γ') }
theorem fin_le {H : Hp} {vs : List V} {Γ : G} (g : RG K H (vs.map some) Γ) {Q : VK} {E : XK} {n : Nat} :
    EndD.Le (finX Γ (fun r Γ' => ∀ v H', Aft K H Γ H' (vs.map some) Γ' → Res K H (vs.map some) Γ H' Γ' v r → Q v H') (fun x Γ' => ∀ c d H', Aft K H Γ H' (vs.map some) Γ' → XOk K H' x c d → E c d H'))
      (liftD K (fun c d _ H' => E c d H') (Γ ++ List.replicate n .no) H { nx := fun _ H' => Q .non H', rt := Q }) := by
  have key : ∀ {r : SV} {Γ' : G} {v : V} {σ' : Sl} {H' : Hp}, isBw r = false → (∀ v H', Aft K H Γ H' (vs.map some) (back Γ Γ') → Res K H (vs.map some) Γ H' (back Γ Γ') v r → Q v H') →
      Aft K H (Γ ++ List.replicate n .no) H' σ' Γ' → Res K H σ' (Γ ++ List.replicate n .no) H' Γ' v r → Q v H' := fun {r Γ' v σ' H'} nb q a rs => by
    obtain ⟨a2, ow2⟩ := aft_back g a
    refine q v H' a2 ?_
    cases r with
    | no => trivial
    | fz d => exact rs
    | raw u => exact rs
    | bw i => cases nb
    | ow p o =>
      obtain ⟨e, z1, z2, z3⟩ := rs
      refine ⟨e, z1, fun c hc z => z2 c hc (ow2 c z), fun c hc => (z3 c hc).imp (fun hown => ?_) id⟩
      obtain ⟨i, q, o, e, ha⟩ := own_el hown
      rcases Nat.lt_or_ge i Γ.length with h | h
      · rw [List.getElem?_append_left h] at e; exact own_mk e ha
      · rw [List.getElem?_append_right h] at e
        have := List.mem_of_getElem? e
        rw [List.mem_replicate] at this
        cases this.2
  exact ⟨fun Γ' q σ' H' a => key (r := .fz .none) (v := .non) rfl q a rfl, fun r Γ' q v σ' H' a rs => key q.1 q.2 a rs, fun Γ' z => z.elim, fun Γ' z => z.elim, fun x Γ' q c d σ' H' a xo => q c d H' (aft_back g a).1 xo⟩
/-- THE RULE for a def that raises nothing -/
theorem fnd {x qual : Str} {st : Stmt} {f : Addr} {fd : FuncData} {N ps : List Str} {k : Nat} {sp : SpD} (F : Fun K x qual st f fd) (S : FnScope N ps (defScope st)) (n : Nat) (hn : ps.length = n) (ms : MonoSp sp)
    (hbody : ∀ (X : Cx) (cdv : Value) (A : Around) (outer : List Env) (s : Shared) (H : Hp) (E : XK), X = (cxOf CX0 P w K mg base N qual (defScope st) f cdv A outer s H E).nox → Room k X.A →
      ∃ t, PDSs X (defBody st) t ∧ ∀ Γ Q E', Γ.length = n → sp Γ Q E' → t (fin Γ Q) (Γ ++ List.replicate (N.length - n) .no)) : FnOk P w K mg base CX0 (k + 1) f fd ps (liftSp K n sp) := by
  refine F.ok S (fun vs H Q E h => h.1.trans hn.symm) (fun cdv A outer s H vs Q E hr h => ?_)
  obtain ⟨hl, Γ, g, q⟩ := h
  obtain ⟨t, ht, rd⟩ := hbody _ cdv A outer s H E rfl hr
  have hL : Γ.length = n := by rw [g.len, List.length_map, hl]
  refine ⟨_, ht.run (fun c d _ H' => False) LamX.takes0, _, ?_, ht.mono _ _ _ (fin_le (E := fun _ _ _ => False) g) (ht.mono _ _ _ ?_ (rd Γ _ _ hL q))⟩
  · have := rg_start (N := N) g
    rw [hL] at this; exact this
  · exact ⟨fun _ z => z, fun _ _ z => z, fun _ z => z, fun _ z => z, fun _ _ z => z.elim⟩
/-- THE RULE for a def that may raise -/
theorem fndX {x qual : Str} {st : Stmt} {f : Addr} {fd : FuncData} {N ps : List Str} {k : Nat} {sp : SpD} (F : Fun K x qual st f fd) (S : FnScope N ps (defScope st)) (n : Nat) (hn : ps.length = n) (ms : MonoSp sp)
    (hbody : ∀ (X : Cx) (cdv : Value) (A : Around) (outer : List Env) (s : Shared) (H : Hp) (E : XK), X = cxOf (L2.CX P w) P w K mg base N qual (defScope st) f cdv A outer s H E → Room k X.A →
      ∃ t, PDSs X (defBody st) t ∧ ∀ Γ Q E', Γ.length = n → sp Γ Q E' → t (finX Γ Q E') (Γ ++ List.replicate (N.length - n) .no)) : FnOk P w K mg base (L2.CX P w) (k + 1) f fd ps (liftSp K n sp) := by
  refine F.okX S (fun vs H Q E h => h.1.trans hn.symm) (fun cdv A outer s H vs Q E hr h => ?_)
  obtain ⟨hl, Γ, g, q⟩ := h
  obtain ⟨t, ht, rd⟩ := hbody _ cdv A outer s H E rfl hr
  have hL : Γ.length = n := by rw [g.len, List.length_map, hl]
  refine ⟨_, ht.run (fun c d _ H' => E c d H') (takes_of rfl rfl rfl rfl), _, ?_, ht.mono _ _ _ (fin_le g) (rd Γ _ _ hL q)⟩
  have := rg_start (N := N) g
  rw [hL] at this; exact this
end
end DL
/-! DL8: what a loop walks: lists, tuples, texts, ranges, enumerate of each; for. -/
namespace DL
open PySem PySem.Spec PyProof.Rows L2

/-! ### enumerate(v) of a tuple -/
theorem meets_enum1 {v : Value} {o : Obj} {HP : Heap → Prop} (B : Begins v o HP) :
    Meets (Builtin.«enumerate.__new__» ⟨[.type "enumerate", v], []⟩) (fun _ R s => HP s.heap ∧
      R (.ok (.ret (.ref (s.heap.push o).objs.size))) { s with heap := (s.heap.push o).push { cls := .type "enumerate", data := .fields #[.none, .bool false, .ref s.heap.objs.size, rawInt 0, .none, .none] } }) := by
  refine .of_wp fun prog w A R s hh => ?_
  obtain ⟨hp, g, d, tk, os⟩ := s
  obtain ⟨b1, fin⟩ := hh
  have sb := sub_enumerate
  have it1 : ∀ {A' : Around} {E Q : Value → Shared → Prop}, Q (.ref hp.objs.size) ⟨hp.push o, g, d, tk, os⟩ → wpAny (model prog w) A' (pyIter v) Q E ⟨hp, g, d, tk, os⟩ := by
    intro A' E Q q
    exact B.iter prog w A' E ⟨hp, g, d, tk, os⟩ Q b1 q
  wp_walk using it1
  refine wpAny_stack_any (fun st => ?_)
  refine wpAny_pure ?_
  split
  · rename_i c _ _ _ _ _
    by_cases hc : (c == Value.type "enumerate") = true
    · simp only [hc]
      wp_walk using it1
      exact ⟨_, rfl, fin⟩
    · simp only [Bool.eq_false_iff.mpr hc]
      wp_walk using it1
      exact ⟨_, rfl, fin⟩
  · wp_walk using it1
    exact ⟨_, rfl, fin⟩
theorem enum1_begins {prog : Program} {w : World} {A : Around} {E : Value → Shared → Prop} {s : Shared} {v : Value} {o : Obj} {HP : Heap → Prop} {Q : Value → Shared → Prop} (B : Begins v o HP) (h1 : HP s.heap)
    (h : ∀ h', IsEnum h' (s.heap.objs.size + 1) s.heap.objs.size 0 .none → h'.get? s.heap.objs.size = some o → (∀ b o, s.heap.get? b = some o → h'.get? b = some o) → Q (.ref (s.heap.objs.size + 1)) { s with heap := h' }) :
    wpAny (model prog w) A (call (.type "enumerate") [v]) Q E s := by
  have z1 : (s.heap.push o).objs.size = s.heap.objs.size + 1 := Heap.size_push ..
  refine callType_new F.called_enumerate (by decide) (F.typeCall_enumerate_1 _)
    (F.newCall_enumerate_1 _) (fun obj => F.args_object_init_2 obj _)
    F.entry_enumerate_new (meets_enum1 B) ?_
  refine ⟨h1, ?_⟩
  rw [z1]
  have e2 := Heap.get?_push_size (s.heap.push o) (o := { cls := .type "enumerate", data := .fields #[.none, .bool false, .ref s.heap.objs.size, rawInt 0, .none, .none] }) rfl
  rw [z1] at e2
  have o1 : (s.heap.push o).get? s.heap.objs.size = some o := Heap.get?_push_size s.heap B.free
  exact ⟨⟨_, e2, rfl⟩, h _ e2 (Heap.get?_push_of_some _ o1) (fun b ob q => Heap.get?_push_of_some _ (Heap.get?_push_of_some _ q))⟩
/-- enumerate of the tuple at a -/
def IteT (K : PySem.W.Frag) (a : Addr) : It where
  go := fun i H => ∃ xs x, SqT K H a xs ∧ xs[i]? = some x
  yld := fun i H v H' => ∃ T x, v = .ref T ∧ H T = none ∧ H' = upd H T (.tup [.int (i : Nat), x]) ∧ ∀ xs, SqT K H a xs → xs[i]? = some x
  stop := fun i H => ∃ xs, SqT K H a xs ∧ xs.length = i
theorem turn_enumT {P : Program} {w : World} {K : PySem.W.Frag} {elts : List Expr} {kk : Nat} {tpos : Pos} (a e it : Addr) :
    Turn P w K (.Tuple elts kk tpos) (IteT K a) [e, it] e (fun i h => (∃ old, IsEnum h e it ((i : Nat) : Int) old) ∧ h.IsTupleIter it a i ∧ e ≠ it ∧ a ≠ it ∧ a ≠ e) := by
  have mem2 : ∀ {b : Addr}, b ∈ [e, it] → b = e ∨ b = it := fun hb => by simpa using hb
  refine ⟨by simp, ?_, ?_, ?_, ?_, ?_⟩
  · rintro i h ⟨⟨old, he⟩, ⟨o, ho, hc, hd⟩, _⟩ b hb
    rcases mem2 hb with rfl | rfl
    · exact ⟨_, he, fun v q => nomatch q⟩
    · exact ⟨o, ho, fun v q => by rw [hd] at q; cases q⟩
  · rintro i h h' ⟨⟨old, he⟩, hi, hn⟩ k
    exact ⟨⟨old, k e (by simp) _ he⟩, hi.at (fun o q => k it (by simp) o q), hn⟩
  · intro X hP hw hK hc i pins s σ H E I hf st hg
    subst hP hw hK
    obtain ⟨⟨old, he⟩, hit, hne, ha1, ha2⟩ := st
    obtain ⟨xs, x, hq, hx⟩ := hg
    obtain ⟨its, rv, pt, hz⟩ := I.tuple hq
    obtain ⟨u, hu, ru⟩ := rv.get hx
    have hel : e < s.heap.objs.size := Heap.lt_size he
    have hil : it < s.heap.objs.size := by
      obtain ⟨_, q, _⟩ := hit
      exact Heap.lt_size q
    have hlt : i < its.toArray.size := by
      have := List.getElem?_eq_some_iff.mp hu
      obtain ⟨z, _⟩ := this
      simpa using z
    refine wpAny_pyNext_enum_itemD (Draws.tuple (show X.A.in1.handled = none from I.ok.hd hc) it a ha1 its.toArray) he ⟨hit, pt⟩ hlt hne (by simp [hne, Ne.symm ha2]) (fun y h' tk hP ho hst hT hsz hk => ?_)
    have ey : y = u := by
      have z : its.toArray[i]? = some y := hP
      rw [List.getElem?_toArray, hu] at z
      exact (Option.some.inj z).symm
    subst ey
    refine ⟨_, rfl, wpAny_letOwnedTupleGo_enum (s := { s with heap := h', toks := tk + 1 }) ho (fun h'' he' sb => ?_)⟩
    have hT2 : h''.get? s.heap.objs.size = some { cls := .type "tuple", data := .seq #[.int i tk, y] } := by
      rw [sb.2 _ (Nat.ne_of_gt hel)]
      exact hT
    have new : ObjOk X.prog X.w (upd H s.heap.objs.size (.tup [.int (i : Nat), x])) h'' s.heap.objs.size (.tup [.int (i : Nat), x]) :=
      ⟨Nat.le_of_lt (small1000 (by decide : (2 : Nat) ≤ 1000)), [.int i tk, y], .cons ⟨_, rfl⟩ (.cons ru .nil), ⟨_, hT2, rfl, _, rfl⟩⟩
    have I1 : Inv X pins σ (upd H s.heap.objs.size (.tup [.int (i : Nat), x])) { s with heap := h'', toks := tk + 1 } := by
      refine I.turnedNew (ch := [e, it]) (fun b ob hb q => ?_) hf (Nat.le_refl _) new
      rw [sb.2 b (fun z => hb (by simp [z]))]
      exact hk b ob (fun z => hb (by simp [z])) (fun z => hb (by simp [z])) q
    have e1 : ((i + 1 : Nat) : Int) = (i : Int) + 1 := by omega
    refine ⟨.ref s.heap.objs.size, _, I1, rfl, ⟨_, x, rfl, I.hok.fresh (Nat.le_refl _), rfl, fun ys hy => ?_⟩, ⟨⟨y, ?_⟩, ?_, hne, ha1, ha2⟩, fun b hb => ?_⟩
    · rw [I.tuple_inj hy hq]
      exact hx
    · rw [e1]
      exact he'
    · exact hst.1.at fun o q => (sb.2 it (Ne.symm hne)).trans q
    · have hb' : b ≠ s.heap.objs.size := by
        rcases mem2 hb with rfl | rfl
        · exact Nat.ne_of_lt hel
        · exact Nat.ne_of_lt hil
      rw [upd_ne hb']
      exact (hf b hb).1
  · intro X hP hw hK hc i pins s σ H E I hf st hg
    subst hP hw hK
    obtain ⟨⟨old, he⟩, hit, hne, ha1, ha2⟩ := st
    obtain ⟨xs, hq, hx⟩ := hg
    obtain ⟨its, rv, pt, hz⟩ := I.tuple hq
    obtain ⟨f0, f1, f2, f3, f4, f5⟩ := hf it (by simp)
    have hl := rv.length
    have hge : its.toArray.size = i := by simp; omega
    have D1 := Draws.tuple (prog := X.prog) (w := X.w) (A := X.A.in1) (I.ok.hd hc) it a ha1 (its.toArray)
    rw [hge] at D1
    exact wpAny_pyNext_enum_endD D1 he ⟨hit, pt⟩ (fun h' eb => ⟨rfl, I.turned (t' := s.toks) (fun b o hb q => eb b o hb q) f0 f1 f3 f4 f5⟩)
  · rintro A i s Q E ⟨⟨old, he⟩, _⟩ h
    exact wpAny_pyIter_enum he h
end DL
/-! DL9: sources of loops over data; for; list comprehensions. -/
namespace DL
open PySem PySem.Spec PyProof.Rows L2

/-! ### sources -/
structure Src (K : PySem.W.Frag) (ds : List D) (J : It) (St : Hp → Prop) : Prop where
  go : ∀ i H, St H → i < ds.length → J.go i H
  yld : ∀ i d H x H', St H → ds[i]? = some d → J.yld i H x H' → Same H H' ∧ Rep K H' d x
  stop : ∀ H, St H → J.stop ds.length H
  le : ds.length ≤ sizeLine
/-- a list of one's own that is walked: its slot, its address, its items -/
abbrev Lk := Option (Nat × Addr × O)
def lkOk : Lk → G → Prop
  | none, _ => True
  | some (i, p, o), Γ => Γ[i]? = some (SV.ow p o)
abbrev TID := G → (List D → Lk → G → Prop) → Prop
def liftI (K : PySem.W.Frag) (t : TID) : TI := fun σ H R => ∃ Γ, RG K H σ Γ ∧ t Γ fun ds lk Γ1 => ∀ J H1 (St : Hp → Prop), Aft K H Γ H1 σ Γ1 → Src K ds J St → (∀ H2 σ2 Γ2, Imm H1 H2 → RG K H2 σ2 Γ2 → lkOk lk Γ2 → St H2) → R J H1
def MonoI (t : TID) : Prop := ∀ Γ (Q Q' : List D → Lk → G → Prop), (∀ ds lk Γ', Q ds lk Γ' → Q' ds lk Γ') → t Γ Q → t Γ Q'
structure PID (X : Cx) (tg iter : Expr) (t : TID) : Prop where
  run : PI X tg iter (liftI X.K t)
  mono : MonoI t
section
variable {X : Cx} {tg e a b : Expr} {t ta tb : TD} {p pos tpos : Pos}
theorem PI.imp {it : Expr} {t t' : TI} (h : PI X tg it t) (hi : ∀ σ H Q, t' σ H Q → t σ H Q) : PI X tg it t' := ⟨fun pins s σ H Q I q => h.run pins s σ H Q I (hi _ _ _ q)⟩
/-- over a list or a tuple, whichever it is -/
def iSeq (K : PySem.W.Frag) (tl : TE) : TI := fun σ H R => tl σ H fun x H1 => ∃ a, x = .ref a ∧ ((∃ xs, SqL K H1 a xs ∧ (xs.length ≤ sizeLine → R (Itl K a) H1)) ∨ (∃ xs, SqT K H1 a xs ∧ (xs.length ≤ sizeLine → R (Itt K a) H1)))
theorem pi_seq {tl : TE} (hl : PE X e tl) : PI X tg e (iSeq X.K tl) := by
  refine ⟨fun pins s σ H R I h => ?_⟩
  refine thn (hl.run pins s σ H _ I h) fun v s1 hx => ?_
  obtain ⟨x, H1, I1, r1, c, ex, q⟩ := hx
  subst ex
  cases r1
  have top : ∀ b ∈ [s1.heap.objs.size], FpOk X pins H1 b := fun b hb => by
    rw [show b = s1.heap.objs.size by simpa using hb]
    exact I1.fpOk (Nat.le_refl _) (I1.hok.fresh (Nat.le_refl _))
  have grow : ∀ o, Inv X pins σ H1 { s1 with heap := s1.heap.push o } := fun o => I1.kept (t' := s1.toks) (fun _ _ z => Heap.get?_push_of_some _ z)
  rcases q with ⟨xs, hq, q⟩ | ⟨xs, hq, q⟩
  · obtain ⟨us, ru, pl, hz⟩ := I1.list hq
    exact wpAny_pyIter_list pl.isList ⟨_, _, _, _, H1, rfl, grow _, turn_list c _, ⟨_, Heap.get?_push_size _ rfl, rfl, rfl⟩, top, q hz⟩
  · obtain ⟨us, ru, pl, hz⟩ := I1.tuple hq
    exact wpAny_pyIter_tuple (show s1.heap.IsTuple c us.toArray from pl) ⟨_, _, _, _, H1, rfl, grow _, turn_tuple c _, ⟨_, Heap.get?_push_size _ rfl, rfl, rfl⟩, top, q hz⟩
theorem src_tup {K : PySem.W.Frag} {a : Addr} {ds : List D} (hl : ds.length ≤ sizeLine) : Src K ds (Itt K a) (fun H => (∃ vs, SqT K H a vs ∧ Reps K H ds vs)) := by
  refine ⟨fun i H ⟨vs, h1, h2⟩ hi => ?_, fun i d H x H' ⟨vs, h1, h2⟩ e y => ?_, fun H ⟨vs, h1, h2⟩ => ⟨vs, h1, Nat.le_of_eq h2.len⟩, hl⟩
  · obtain ⟨v, e, _⟩ := h2.get (List.getElem?_eq_getElem hi)
    exact ⟨vs, v, h1, e⟩
  · obtain ⟨rfl, y⟩ := y
    obtain ⟨v, e2, r⟩ := h2.get e
    have := (y vs h1).symm.trans e2
    cases this
    exact ⟨same_refl _, r⟩
theorem src_lst {K : PySem.W.Frag} {a : Addr} {ds : List D} (hl : ds.length ≤ sizeLine) : Src K ds (Itl K a) (fun H => (∃ vs, SqL K H a vs ∧ Reps K H ds vs)) := by
  refine ⟨fun i H ⟨vs, h1, h2⟩ hi => ?_, fun i d H x H' ⟨vs, h1, h2⟩ e y => ?_, fun H ⟨vs, h1, h2⟩ => ⟨vs, h1, Nat.le_of_eq h2.len⟩, hl⟩
  · obtain ⟨v, e, _⟩ := h2.get (List.getElem?_eq_getElem hi)
    exact ⟨vs, v, h1, e⟩
  · obtain ⟨rfl, y⟩ := y
    obtain ⟨v, e2, r⟩ := h2.get e
    have := (y vs h1).symm.trans e2
    cases this
    exact ⟨same_refl _, r⟩
def tiSeq (t : TD) : TID := fun Γ Q => t Γ fun r Γ' => match r with
  | .fz (.tuple ds) => Q ds none Γ'
  | .fz (.list ds) => Q ds none Γ'
  | .bw i => (match Γ'[i]? with
    | some (.ow p (.lst ds)) => Q ds (some (i, p, .lst ds)) Γ'
    | some (.ow p (.tup ds)) => Q ds (some (i, p, .tup ds)) Γ'
    | _ => False)
  | _ => False
theorem pid_seq (he : PD X e t) : PID X tg e (tiSeq t) := by
  refine ⟨PI.imp (pi_seq he.run) fun σ H R ⟨Γ, g, q⟩ => ⟨Γ, g, he.mono _ _ _ (fun r Γ' q v H' a rs => ?_) q⟩, fun Γ Q Q' h => he.mono _ _ _ fun r Γ' q => ?_⟩
  · split at q
    · obtain ⟨c, vs, rfl, h1, h2⟩ := rs
      exact ⟨c, rfl, .inr ⟨vs, h1.sq, fun hl => q _ H' _ a (src_tup (by rw [← h2.len]; exact hl)) fun H2 σ2 Γ2 i _ _ => ⟨vs, (h1.imm i).sq, h2.imm i⟩⟩⟩
    · obtain ⟨c, vs, rfl, h1, h2⟩ := rs
      exact ⟨c, rfl, .inl ⟨vs, h1.sq, fun hl => q _ H' _ a (src_lst (by rw [← h2.len]; exact hl)) fun H2 σ2 Γ2 i _ _ => ⟨vs, (h1.imm i).sq, h2.imm i⟩⟩⟩
    · split at q
      · rename_i c ds e1
        obtain ⟨z1, vs, z2, z3⟩ := a.rg.ow _ _ _ e1
        have ev := (show σ[(_ : Nat)]? = some (some v) from rs).symm.trans z1
        cases ev
        refine ⟨c, rfl, .inl ⟨vs, .of z2, fun hl => q _ H' _ a (src_lst (by rw [← z3.len]; exact hl)) fun H2 σ2 Γ2 i g2 l2 => ?_⟩⟩
        obtain ⟨_, vs2, w2, w3⟩ := g2.ow _ _ _ l2
        exact ⟨vs2, .of w2, w3⟩
      · rename_i c ds e1
        obtain ⟨z1, ob, vs, _, z2, z3⟩ := a.rg.ow _ _ _ e1
        have ev := (show σ[(_ : Nat)]? = some (some v) from rs).symm.trans z1
        cases ev
        refine ⟨c, rfl, .inr ⟨vs, .inl (.inr ⟨ob, z2⟩), fun hl => q _ H' _ a (src_tup (by rw [← z3.len]; exact hl)) fun H2 σ2 Γ2 i g2 l2 => ?_⟩⟩
        obtain ⟨_, ob2, vs2, _, w2, w3⟩ := g2.ow _ _ _ l2
        exact ⟨vs2, .inl (.inr ⟨ob2, w2⟩), w3⟩
      · exact q.elim
    · exact q.elim
  · split at q
    · exact h _ _ _ q
    · exact h _ _ _ q
    · split at q
      · exact h _ _ _ q
      · exact h _ _ _ q
      · exact q
    · exact q
def signsD (z : Str) : List D := z.cps.toList.map fun c => .str ⟨#[c]⟩
def tiStr (t : TD) : TID := fun Γ Q => t Γ fun r Γ' => match r with
  | .fz (.str z) => z.length ≤ sizeLine ∧ Q (signsD z) none Γ'
  | _ => False
theorem src_str {K : PySem.W.Frag} {z : Str} (hz : PyData.strOk z = true) (hle : z.length ≤ sizeLine) : Src K (signsD z) (Its z) (fun _ => True) := by
  have hl : (signsD z).length = z.cps.size := by unfold signsD; simp
  refine ⟨fun i H _ hi => ?_, fun i d H x H' _ e y => ?_, fun H _ => ?_, by rw [hl]; exact hle⟩
  · rw [hl] at hi; exact hi
  · obtain ⟨rfl, c, ec, rfl⟩ := y
    unfold signsD at e
    rw [List.getElem?_map, Array.getElem?_toList, ec] at e
    cases e
    refine ⟨same_refl _, rfl, ?_⟩
    have hm : c ∈ z.cps := Array.mem_of_getElem? ec
    unfold PyData.strOk at hz ⊢
    rw [Array.all_eq_true_iff_forall_mem] at hz
    simpa using hz c hm
  · rw [hl]; exact Nat.le_refl _
theorem pid_str (he : PD X e t) : PID X tg e (tiStr t) := by
  refine ⟨PI.imp (pi_str he.run) fun σ H R ⟨Γ, g, q⟩ => ⟨Γ, g, he.mono _ _ _ (fun r Γ' q v H' a rs => ?_) q⟩, fun Γ Q Q' h => he.mono _ _ _ fun r Γ' q => ?_⟩
  · split at q
    · exact ⟨_, rs.1, q.2 _ H' _ a (src_str rs.2 q.1) fun _ _ _ _ _ _ => trivial⟩
    · exact q.elim
  · split at q
    · exact ⟨q.1, h _ _ _ q.2⟩
    · exact q
theorem src_rng {K : PySem.W.Frag} {lo hi : Int} (ok : RgOk lo hi) : Src K (rgD lo hi) (Itr lo (hi - lo).toNat) (fun _ => True) := by
  have hl : (rgD lo hi).length = (hi - lo).toNat := by unfold rgD; simp
  refine ⟨fun i H _ hi => by rw [hl] at hi; exact hi, fun i d H x H' _ e y => ?_, fun H _ => by rw [hl]; exact Nat.le_refl _, by rw [hl]; exact ok.2.2.2.2⟩
  obtain ⟨rfl, rfl⟩ := y
  unfold rgD at e
  rw [List.getElem?_map] at e
  cases q : (List.range (hi - lo).toNat)[i]? with
  | none => rw [q] at e; cases e
  | some k =>
    rw [q] at e
    have hk : k = i := by
      have := List.getElem?_eq_some_iff.mp q
      obtain ⟨z1, z2⟩ := this
      simpa using z2.symm
    subst hk
    cases e
    exact ⟨same_refl _, rfl⟩
def tiRg1 (t : TD) : TID := fun Γ Q => t Γ fun r Γ' => match r with
  | .fz (.int n) => RgOk 0 n ∧ Q (rgD 0 n) none Γ'
  | _ => False
def tiRg2 (ta tb : TD) : TID := fun Γ Q => ta Γ fun r Γ1 => match r with
  | .fz (.int i) => tb Γ1 fun r' Γ2 => (match r' with
    | .fz (.int j) => RgOk i j ∧ Q (rgD i j) none Γ2
    | _ => False)
  | _ => False
theorem pid_rg1 (hg : Gl X "range") (hm : X.mg "range" = none) (ha : PD X a ta) (hs : starEach [a] X.env = [(false, eval a X.env)] := by rfl) (hs' : starEach [a] X.env = (false, eval a X.env) :: starEach [] X.env := by rfl) : PID X tg (.Call (.Name "range" p) [a] [] pos) (tiRg1 ta) := by
  refine ⟨PI.imp (pi_range1 hg hm (pa_cons ha.run pa_nil hs') hs) fun σ H R ⟨Γ, g, q⟩ => ⟨Γ, g, ha.mono _ _ _ (fun r Γ' q v H' a rs => ?_) q⟩, fun Γ Q Q' h => ha.mono _ _ _ fun r Γ' q => ?_⟩
  · split at q
    · rename_i n
      have z := q.2 (Itr 0 (n - 0).toNat) H' _ a (src_rng q.1) fun _ _ _ _ _ _ => trivial
      rw [Int.sub_zero] at z
      exact ⟨n, by rw [show v = V.int n from rs], q.1.2.2.1, q.1.2.2.2.1, z⟩
    · exact q.elim
  · split at q
    · exact ⟨q.1, h _ _ _ q.2⟩
    · exact q
theorem pid_rg2 (hg : Gl X "range") (hm : X.mg "range" = none) (ha : PD X a ta) (hb : PD X b tb) (hs : starEach [a, b] X.env = [(false, eval a X.env), (false, eval b X.env)] := by rfl) (hs2 : starEach [b] X.env = [(false, eval b X.env)] := by rfl)
    (na : starEach [a, b] X.env = (false, eval a X.env) :: starEach [b] X.env := by rfl) (nb : starEach [b] X.env = (false, eval b X.env) :: starEach [] X.env := by rfl) : PID X tg (.Call (.Name "range" p) [a, b] [] pos) (tiRg2 ta tb) := by
  refine ⟨PI.imp (pi_range2 hg hm (pa_cons ha.run (pa_cons hb.run pa_nil nb) na) hs hs2) fun σ H R ⟨Γ, g, q⟩ => ⟨Γ, g, ha.mono _ _ _ (fun r Γ1 q v H1 a1 r1 => ?_) q⟩, fun Γ Q Q' h => ha.mono _ _ _ fun r Γ' q => ?_⟩
  · split at q
    · rename_i i
      refine ⟨Γ1, a1.rg, hb.mono _ _ _ (fun r' Γ2 q u H2 a2 r2 => ?_) q⟩
      split at q
      · rename_i j
        exact ⟨i, j, by rw [show v = V.int i from r1, show u = V.int j from r2], ⟨q.1.1, q.1.2.1, q.1.2.2.1, q.1.2.2.2.1⟩, q.2 _ H2 _ (a1.trans g a2) (src_rng q.1) fun _ _ _ _ _ _ => trivial⟩
      · exact q.elim
    · exact q.elim
  · split at q
    · refine hb.mono _ _ _ (fun r' Γ2 q => ?_) q
      split at q
      · exact ⟨q.1, h _ _ _ q.2⟩
      · exact q
    · exact q
/-- the pairs of enumerate -/
def enumD : Nat → List D → List D
  | _, [] => []
  | k, d :: r => .tuple [.int k, d] :: enumD (k + 1) r
theorem enumD_len : ∀ {k : Nat} {ds : List D}, (enumD k ds).length = ds.length
  | _, [] => rfl
  | k, d :: r => by simp [enumD, enumD_len (k := k + 1) (ds := r)]
theorem enumD_at : ∀ {k : Nat} {ds : List D} {i : Nat} {z : D}, (enumD k ds)[i]? = some z → ∃ d, ds[i]? = some d ∧ z = .tuple [.int ((k + i : Nat) : Int), d]
  | _, [], _, _, h => by simp [enumD] at h
  | k, d :: r, 0, z, h => by
    have : PyData.tuple [.int k, d] = z := by simpa [enumD] using h
    exact ⟨d, rfl, by rw [← this]; simp⟩
  | k, d :: r, i + 1, z, h => by
    obtain ⟨d', h1, h2⟩ := enumD_at (k := k + 1) (ds := r) (i := i) (z := z) (by simpa [enumD] using h)
    exact ⟨d', by simpa using h1, by rw [h2]; congr 3; omega⟩
theorem rep_pair {K : PySem.W.Frag} {H : Hp} {T : Addr} {i : Nat} {d : D} {x : V} (n : H T = none) (r : Rep K H d x) : Rep K (upd H T (.tup [.int (i : Nat), x])) (.tuple [.int ((0 + i : Nat) : Int), d]) (.ref T) := by
  refine ⟨T, _, rfl, upd_same, .int (i : Nat), [x], rfl, ?_, x, [], rfl, r.imm (imm_same (same_upd n)), rfl⟩
  show V.int (i : Nat) = V.int ((0 + i : Nat) : Int)
  rw [Nat.zero_add]
def tiEnum (t : TD) (tup : Bool) : TID := fun Γ Q => t Γ fun r Γ' => match r with
  | .fz (.tuple ds) => tup = true ∧ Q (enumD 0 ds) none Γ'
  | .fz (.list ds) => tup = false ∧ Q (enumD 0 ds) none Γ'
  | _ => False
theorem tiEnum_mono {tup : Bool} (m : Mono t) : MonoI (tiEnum t tup) := fun Γ Q Q' h => m _ _ _ fun r Γ' q => by
  split at q
  · exact ⟨q.1, h _ _ _ q.2⟩
  · exact ⟨q.1, h _ _ _ q.2⟩
  · exact q
theorem pid_enumL {elts : List Expr} {kk : Nat} (hg : Gl X "enumerate") (hm : X.mg "enumerate" = none) (he : PD X e t) (hs : starEach [e] X.env = [(false, eval e X.env)] := by rfl) (hs' : starEach [e] X.env = (false, eval e X.env) :: starEach [] X.env := by rfl) :
    PID X (.Tuple elts kk tpos) (.Call (.Name "enumerate" p) [e] [] pos) (tiEnum t false) := by
  refine ⟨⟨fun pins s σ H R I ⟨Γ, g, q⟩ => ?_⟩, tiEnum_mono he.mono⟩
  have ha := pa_cons he.run pa_nil hs'
  refine Call_ (ld_blt I hg hm boot_enumerate (PyProof.Rows.callWith_type1 ?_ hs rfl))
  refine thn (ha.run pos pins s σ H (fun vs H1 => ∃ c ds ws, vs = [.ref c] ∧ FzL X.K H1 c ws ∧ Reps X.K H1 ds ws ∧ ∀ J (St : Hp → Prop), Src X.K (enumD 0 ds) J St → (∀ H2, Imm H1 H2 → St H2) → R J H1) I ⟨Γ, g, he.mono _ _ _ (fun r Γ' q v H' a rs => ?_) q⟩) fun us s1 hq => ?_
  · split at q
    · exact absurd q.1 (by decide)
    · obtain ⟨c, ws, rfl, h1, h2⟩ := rs
      exact ⟨c, _, ws, rfl, h1, h2, fun J St hJ hS => q.2 J H' St a hJ fun H2 _ _ i _ _ => hS H2 i⟩
    · exact q.elim
  · obtain ⟨vs, H1, I1, rv, c, ds, ws, rfl, h1, h2, q⟩ := hq
    obtain ⟨its, rw', pt, hz⟩ := I1.list h1.sq
    rw [show us = [Value.ref c] from Vals.ref1 rv]
    refine enum1_begins (begins_list c its.toArray) pt.isList fun h' hen hit hk => ?_
    refine wpAny_pyIter_enum hen ?_
    have I2 : Inv X pins σ H1 { s1 with heap := h' } := I1.kept (t' := s1.toks) hk
    refine ⟨s1.heap.objs.size + 1, [s1.heap.objs.size + 1, s1.heap.objs.size], _, _, H1, rfl, I2, turn_enum c (s1.heap.objs.size + 1) s1.heap.objs.size, ?_, fun b hb => ?_, q (Ite X.K c) (fun H => (∃ vs, FzL X.K H c vs ∧ Reps X.K H ds vs)) ?_ fun H2 i => ⟨ws, h1.imm i, h2.imm i⟩⟩
    · exact ⟨⟨.none, hen⟩, ⟨_, hit, rfl, rfl⟩, Nat.succ_ne_self _⟩
    · have hle : s1.heap.objs.size ≤ b := by
        have e' : b = s1.heap.objs.size + 1 ∨ b = s1.heap.objs.size := by simpa using hb
        rcases e' with rfl | rfl
        · exact Nat.le_succ _
        · exact Nat.le_refl _
      exact I1.fpOk hle (I1.hok.fresh hle)
    · refine ⟨fun i H ⟨vs, h1, h2⟩ hi => ?_, fun i d H x H' ⟨vs, h1, h2⟩ e y => ?_, fun H ⟨vs, h1, h2⟩ => ⟨vs, h1.sq, by rw [enumD_len]; exact Nat.le_of_eq h2.len⟩, ?_⟩
      · rw [enumD_len] at hi
        obtain ⟨v, e, _⟩ := h2.get (List.getElem?_eq_getElem hi)
        exact ⟨vs, v, h1.sq, e⟩
      · obtain ⟨d', e1, rfl⟩ := enumD_at e
        obtain ⟨T, w, rfl, n, rfl, y⟩ := y
        obtain ⟨v, e2, r⟩ := h2.get e1
        have := (y vs h1.sq).symm.trans e2
        cases this
        exact ⟨same_upd n, rep_pair n r⟩
      · rw [enumD_len, ← h2.len]; exact hz
theorem pid_enumT {elts : List Expr} {kk : Nat} (hg : Gl X "enumerate") (hm : X.mg "enumerate" = none) (he : PD X e t) (hs : starEach [e] X.env = [(false, eval e X.env)] := by rfl) (hs' : starEach [e] X.env = (false, eval e X.env) :: starEach [] X.env := by rfl) :
    PID X (.Tuple elts kk tpos) (.Call (.Name "enumerate" p) [e] [] pos) (tiEnum t true) := by
  refine ⟨⟨fun pins s σ H R I ⟨Γ, g, q⟩ => ?_⟩, tiEnum_mono he.mono⟩
  have ha := pa_cons he.run pa_nil hs'
  refine Call_ (ld_blt I hg hm boot_enumerate (PyProof.Rows.callWith_type1 ?_ hs rfl))
  refine thn (ha.run pos pins s σ H (fun vs H1 => ∃ c ds ws, vs = [.ref c] ∧ StT X.K H1 c ws ∧ Reps X.K H1 ds ws ∧ ∀ J (St : Hp → Prop), Src X.K (enumD 0 ds) J St → (∀ H2, Imm H1 H2 → St H2) → R J H1) I ⟨Γ, g, he.mono _ _ _ (fun r Γ' q v H' a rs => ?_) q⟩) fun us s1 hq => ?_
  · split at q
    · obtain ⟨c, ws, rfl, h1, h2⟩ := rs
      exact ⟨c, _, ws, rfl, h1, h2, fun J St hJ hS => q.2 J H' St a hJ fun H2 _ _ i _ _ => hS H2 i⟩
    · exact absurd q.1 (by decide)
    · exact q.elim
  · obtain ⟨vs, H1, I1, rv, c, ds, ws, rfl, h1, h2, q⟩ := hq
    obtain ⟨its, rw', pt, hz⟩ := I1.tuple h1.sq
    rw [show us = [Value.ref c] from Vals.ref1 rv]
    have hc : c < s1.heap.objs.size := pt.lt
    refine enum1_begins (begins_tuple c its.toArray) (show s1.heap.IsTuple c its.toArray from pt) fun h' hen hit hk => ?_
    refine wpAny_pyIter_enum hen ?_
    have I2 : Inv X pins σ H1 { s1 with heap := h' } := I1.kept (t' := s1.toks) hk
    refine ⟨s1.heap.objs.size + 1, [s1.heap.objs.size + 1, s1.heap.objs.size], _, _, H1, rfl, I2, turn_enumT c (s1.heap.objs.size + 1) s1.heap.objs.size, ?_, fun b hb => ?_, q (IteT X.K c) (fun H => (∃ vs, SqT X.K H c vs ∧ Reps X.K H ds vs)) ?_ fun H2 i => ⟨ws, (h1.imm i).sq, h2.imm i⟩⟩
    · exact ⟨⟨.none, hen⟩, ⟨_, hit, rfl, rfl⟩, Nat.succ_ne_self _, Nat.ne_of_lt hc, Nat.ne_of_lt (Nat.lt_succ_of_lt hc)⟩
    · have hle : s1.heap.objs.size ≤ b := by
        have e' : b = s1.heap.objs.size + 1 ∨ b = s1.heap.objs.size := by simpa using hb
        rcases e' with rfl | rfl
        · exact Nat.le_succ _
        · exact Nat.le_refl _
      exact I1.fpOk hle (I1.hok.fresh hle)
    · refine ⟨fun i H ⟨vs, h1, h2⟩ hi => ?_, fun i d H x H' ⟨vs, h1, h2⟩ e y => ?_, fun H ⟨vs, h1, h2⟩ => ⟨vs, h1, by rw [enumD_len]; exact h2.len⟩, ?_⟩
      · rw [enumD_len] at hi
        obtain ⟨v, e, _⟩ := h2.get (List.getElem?_eq_getElem hi)
        exact ⟨vs, v, h1, e⟩
      · obtain ⟨d', e1, rfl⟩ := enumD_at e
        obtain ⟨T, w, rfl, n, rfl, y⟩ := y
        obtain ⟨v, e2, r⟩ := h2.get e1
        have := (y vs h1).symm.trans e2
        cases this
        exact ⟨same_upd n, rep_pair n r⟩
      · rw [enumD_len, ← h2.len]; exact hz
end
end DL
/-! DL10: for; list comprehensions. -/
namespace DL
open PySem PySem.Spec PyProof.Rows L2
section
variable {X : Cx} {tg iter elt : Expr} {pos : Pos}

/-! ### for -/
theorem EndD.Le.loop {D D' : EndD} (h : D.Le D') {n : G → Prop} : EndD.Le { D with nx := n, ct := n, bk := D.nx } { D' with nx := n, ct := n, bk := D'.nx } := ⟨fun _ z => z, h.rt, h.nx, fun _ z => z, h.xt⟩
structure MonoF (tg : TGD) (tb : TSD) : Prop where
  mg : ∀ d Γ (Q Q' : G → Prop), (∀ Γ', Q Γ' → Q' Γ') → tg d Γ Q → tg d Γ Q'
  mb : MonoS tb
structure ForR (E : EndD) (ds : List D) (lk : Lk) (Γ1 : G) (tg : TGD) (tb : TSD) : Prop where
  out : ∃ inv : List D → List D → G → Prop, inv [] ds Γ1 ∧ (∀ done rest Γ, done ++ rest = ds → inv done rest Γ → lkOk lk Γ) ∧
    (∀ done d rest Γ, done ++ d :: rest = ds → inv done (d :: rest) Γ → tg d Γ fun Γ2 => tb { E with nx := inv (done ++ [d]) rest, ct := inv (done ++ [d]) rest, bk := E.nx } Γ2) ∧ ∀ Γ, inv ds [] Γ → E.nx Γ
def tsFor (ti : TID) (tg : TGD) (tb : TSD) : TSD := fun E Γ => ti Γ fun ds lk Γ1 => MonoF tg tb → ForR E ds lk Γ1 tg tb
theorem pd_for {body : List Stmt} {ti : TID} {tgd : TGD} {tb : TSD} (hp : PassesOwn (model X.prog X.w) X.A X.env X.xe) (hc : X.calm = true) (hi : PID X tg iter ti) (hg : PGD X tg tgd) (hb : PDSs X body tb)
    (hs : ∀ x, foldedSetIterable iter X.env x = pure x := by intro _; rfl) : PDS X (.For tg iter body [] pos) (tsFor ti tgd tb) := by
  refine ⟨fun W tk => PS.imp (ps_for hp hc hi.run hg.run (hb.run W tk) hs) fun D σ H ⟨Γ, g, q⟩ => ⟨Γ, g, hi.mono _ _ _ (fun ds lk Γ1 q J H1 St a1 src stb => ?_) q⟩, fun D D' Γ h => hi.mono _ _ _ fun ds lk Γ1 q mf => let ⟨inv, i0, il, turn, last⟩ := (q mf).out; ⟨inv, i0, il, fun done d rest Γ2 e i2 => hg.mono _ _ _ _ (fun Γ3 q => hb.mono _ _ _ h.loop q) (turn done d rest Γ2 e i2), fun Γ2 i2 => h.nx _ (last Γ2 i2)⟩⟩
  obtain ⟨inv, i0, il, turn, last⟩ := (q ⟨hg.mono, hb.mono⟩).out
  have g1 := a1.rg
  refine ⟨fun i m σ' H' => ∃ done rest Γ', done ++ rest = ds ∧ i = done.length ∧ m = rest.length ∧ Aft X.K H1 Γ1 H' σ' Γ' ∧ inv done rest Γ', ⟨ds.length, [], ds, Γ1, rfl, rfl, rfl, Aft.refl g1, i0⟩, ?_⟩
  rintro i m σ2 H2 ⟨done, rest, Γ2, e, rfl, rfl, a2, i2⟩
  have a12 := a1.trans g a2
  have st2 : St H2 := stb H2 σ2 Γ2 (a2.imm g1) a2.rg (il done rest Γ2 e i2)
  cases rest with
  | nil =>
    rw [List.append_nil] at e
    subst e
    exact .inl ⟨src.stop H2 st2, last Γ2 i2 σ2 H2 a12⟩
  | cons d rest =>
    have ed : ds[done.length]? = some d := by
      rw [← e, List.getElem?_append_right (Nat.le_refl _), Nat.sub_self]
      rfl
    refine .inr ⟨src.go _ H2 st2 (by rw [← e, List.length_append, List.length_cons]; omega), fun σ' H' => ∃ Γ', Aft X.K H1 Γ1 H' σ' Γ' ∧ inv (done ++ [d]) rest Γ', fun σ' H' ⟨Γ', a', i'⟩ => ⟨rest.length, by simp, done ++ [d], rest, Γ', by rw [← e]; simp, by simp, rfl, a', i'⟩, fun x H3 y => ?_⟩
    obtain ⟨sm, rx⟩ := src.yld _ d H2 x H3 st2 ed y
    have a3 := Aft.same a2.rg sm
    refine ⟨Γ2, d, a3.rg, rx, hg.mono _ _ _ _ (fun Γ4 q σ4 H4 a4 => ?_) (turn done d rest Γ2 e i2)⟩
    have a14 := (a2.trans g1 a3).trans g1 a4
    have a04 := a1.trans g a14
    refine ⟨Γ4, a4.rg, hb.mono _ _ _ ?_ q⟩
    exact ⟨fun Γ5 i5 σ5 H5 a5 => ⟨Γ5, a14.trans g1 a5, i5⟩, fun r Γ5 q v σ5 H5 a5 rs => q v σ5 H5 (a04.trans g a5) (rs.from a04), fun Γ5 q σ5 H5 a5 => q σ5 H5 (a04.trans g a5), fun Γ5 i5 σ5 H5 a5 => ⟨Γ5, a14.trans g1 a5, i5⟩, fun x Γ5 q c d σ5 H5 a5 => q c d σ5 H5 (a04.trans g a5)⟩

/-! ### the targets of comprehensions -/
/-- names into the slots vs -/
structure PGC (X : Cx) (tg : Expr) (vs : List Nat) (t : TGD) : Prop where
  run : PG X tg fun v σ H Q => ∃ Γ d, RG X.K H σ Γ ∧ Rep X.K H d v ∧ t d Γ fun Γ' => ∀ σ', Aft X.K H Γ H σ' Γ' → wipe σ' vs = wipe σ vs → Q σ' H
  mono : ∀ d Γ (Q Q' : G → Prop), (∀ Γ', Q Γ' → Q' Γ') → t d Γ Q → t d Γ Q'
theorem pgc_name (i : Nat) {x : Str} (hN : X.N.Nodup) (hi : X.N[i]? = some x := by rfl) (hx : Loc X.env.scope x := by first | exact Or.inl rfl | exact Or.inr rfl) (hf : X.fn x = true ∨ X.env.scope.names.lookup x = some .local := by first | exact .inl rfl | exact .inr rfl) :
    PGC X (.Name x pos) [i] (tgName i) := by
  refine ⟨PG.imp (pg_name hN hi hx hf) fun v σ H Q ⟨Γ, d, g, r, q⟩ => ?_, fun d Γ Q Q' h q => h _ q⟩
  refine q _ (aft_set (Aft.refl g) (r := .fz d) (show Res X.K H σ Γ H Γ v (.fz d) from r) rfl) ?_
  show (σ.set i (some v)).set i none = σ.set i none
  rw [List.set_set]
def tgTwo (i j : Nat) : TGD := fun d Γ Q => match d with
  | .tuple [a, b] => Q ((Γ.set i (.fz a)).set j (.fz b))
  | _ => False
theorem pgc_two (i j : Nat) {x y : Str} {p1 p2 : Pos} {k : Nat} (hc : X.calm = true) (hN : X.N.Nodup) (hi : X.N[i]? = some x := by rfl) (hj : X.N[j]? = some y := by rfl) (hx : Loc X.env.scope x := by first | exact Or.inl rfl | exact Or.inr rfl) (hy : Loc X.env.scope y := by first | exact Or.inl rfl | exact Or.inr rfl)
    (hf : X.fn x = true ∨ X.env.scope.names.lookup x = some .local := by first | exact .inl rfl | exact .inr rfl) (hf2 : X.fn y = true ∨ X.env.scope.names.lookup y = some .local := by first | exact .inl rfl | exact .inr rfl) (hij : i ≠ j := by decide)
    (h1 : (assignEach [.Name x p1, .Name y p2] X.env).map (·.2) = assign (.Name x p1) X.env :: (assignEach [.Name y p2] X.env).map (·.2) := by rfl) (h2 : (assignEach [.Name y p2] X.env).map (·.2) = assign (.Name y p2) X.env :: (assignEach [] X.env).map (·.2) := by rfl)
    (hn : (assignEach [.Name x p1, .Name y p2] X.env).length = 2 := by rfl) (hst : (assignEach [.Name x p1, .Name y p2] X.env).findIdx? (·.1) = none := by rfl) : PGC X (.Tuple [.Name x p1, .Name y p2] k pos) [i, j] (tgTwo i j) := by
  refine ⟨PG.imp (pg_tup hc (pgs_cons (pg_name hN hi hx hf) (pgs_cons (pg_name hN hj hy hf2) pgs_nil h2) h1) hn hst) fun v σ H Q ⟨Γ, d, g, r, q⟩ => ?_, fun d Γ Q Q' h q => ?_⟩
  · unfold tgTwo at q
    split at q
    · obtain ⟨a, vs, rfl, hs, rp⟩ := r
      obtain ⟨v1, w1, rfl, r1, v2, w2, rfl, r2, e3⟩ := rp
      cases (show w2 = [] from e3)
      refine ⟨a, _, rfl, hs.sq, rfl, v1, [v2], rfl, v2, [], rfl, rfl, q _ ?_ ?_⟩
      · have a1 := aft_set (i := i) (Aft.refl g) (r := .fz _) (show Res X.K H σ Γ H Γ v1 (.fz _) from r1) rfl
        exact aft_set (i := j) a1 (r := .fz _) (show Res X.K H _ Γ H _ v2 (.fz _) from r2) rfl
      · show ((((σ.set i (some v1)).set j (some v2)).set j none).set i none) = ((σ.set j none).set i none)
        rw [List.set_set, List.set_comm _ _ hij, List.set_set]
    · exact q.elim
  · unfold tgTwo at q ⊢
    split at q
    · exact h _ q
    · exact q
/-! ### list comprehensions -/
def wipeD (Γ : G) : List Nat → G
  | [] => Γ
  | v :: vs => (wipeD Γ vs).set v .no
def unwipe (Γ Γ0 : G) : List Nat → G
  | [] => Γ
  | v :: vs => (unwipe Γ Γ0 vs).set v (Γ0.getD v .no)
theorem wipeD_at {Γ : G} {i : Nat} {s : SV} : ∀ {vs : List Nat}, (wipeD Γ vs)[i]? = some s → s = .no ∨ (Γ[i]? = some s ∧ i ∉ vs)
  | [], h => .inr ⟨h, by simp⟩
  | v :: vs, h => by
    unfold wipeD at h
    by_cases e : v = i
    · subst e
      rcases Nat.lt_or_ge v (wipeD Γ vs).length with z | z
      · rw [List.getElem?_set_self z] at h
        exact .inl (Option.some.inj h).symm
      · rw [List.getElem?_eq_none (by rw [List.length_set]; exact z)] at h; cases h
    · rw [List.getElem?_set_ne e] at h
      rcases wipeD_at h with z | ⟨z1, z2⟩
      · exact .inl z
      · exact .inr ⟨z1, by simp [z2, Ne.symm e]⟩
theorem wipeD_len {Γ : G} : ∀ {vs : List Nat}, (wipeD Γ vs).length = Γ.length
  | [] => rfl
  | v :: vs => by unfold wipeD; rw [List.length_set, wipeD_len]
theorem unwipe_at {Γ Γ0 : G} {i : Nat} {s : SV} : ∀ {vs : List Nat}, (unwipe Γ Γ0 vs)[i]? = some s → (Γ[i]? = some s ∧ i ∉ vs) ∨ (i ∈ vs ∧ (s = .no ∨ Γ0[i]? = some s))
  | [], h => .inl ⟨h, by simp⟩
  | v :: vs, h => by
    unfold unwipe at h
    by_cases e : v = i
    · subst e
      rcases Nat.lt_or_ge v (unwipe Γ Γ0 vs).length with z | z
      · rw [List.getElem?_set_self z, List.getD_eq_getElem?_getD] at h
        refine .inr ⟨by simp, ?_⟩
        cases q : Γ0[v]? with
        | none => rw [q] at h; exact .inl (Option.some.inj h).symm
        | some s' => rw [q] at h; exact .inr h
      · rw [List.getElem?_eq_none (by rw [List.length_set]; exact z)] at h; cases h
    · rw [List.getElem?_set_ne e] at h
      rcases unwipe_at h with ⟨z1, z2⟩ | ⟨z1, z2⟩
      · exact .inl ⟨z1, by simp [z2, Ne.symm e]⟩
      · exact .inr ⟨by simp [z1], z2⟩
theorem unwipe_len {Γ Γ0 : G} : ∀ {vs : List Nat}, (unwipe Γ Γ0 vs).length = Γ.length
  | [] => rfl
  | v :: vs => by unfold unwipe; rw [List.length_set, unwipe_len]
theorem wipe_keep {σ : Sl} {i : Nat} {x : V} : ∀ {vs : List Nat}, i ∉ vs → σ[i]? = some (some x) → (wipe σ vs)[i]? = some (some x)
  | [], _, h => h
  | v :: vs, n, h => by
    unfold wipe
    simp only [List.mem_cons, not_or] at n
    rw [List.getElem?_set_ne (Ne.symm n.1)]
    exact wipe_keep n.2 h
section
variable {K : PySem.W.Frag} {H H' : Hp} {σ : Sl} {Γ Γ' Γ1 : G} {vs : List Nat}
theorem rg_wipe (g : RG K H σ Γ) : RG K H (wipe σ vs) (wipeD Γ vs) := by
  refine ⟨by rw [wipeD_len, wipe_length]; exact g.len, fun i d e => ?_, fun i p o e => ?_, fun i v e => ?_, one_mk fun i j p p' o o' b e e' ha hb => ?_, g.tb⟩
  · rcases wipeD_at e with z | ⟨z1, z2⟩
    · cases z
    · obtain ⟨v, h1, h2⟩ := g.fz _ _ z1
      exact ⟨v, wipe_keep z2 h1, h2⟩
  · rcases wipeD_at e with z | ⟨z1, z2⟩
    · cases z
    · obtain ⟨h1, h2⟩ := g.ow _ _ _ z1
      exact ⟨wipe_keep z2 h1, h2⟩
  · rcases wipeD_at e with z | ⟨z1, z2⟩
    · cases z
    · exact wipe_keep z2 (g.raw _ _ z1)
  · rcases wipeD_at e with z | ⟨z1, z2⟩
    · cases z
    · rcases wipeD_at e' with z | ⟨z1', z2'⟩
      · cases z
      · exact g.one' z1 z1' ha hb
theorem own_wipe {p : Addr} (h : own (wipeD Γ vs) p) : own Γ p := by
  obtain ⟨i, q, o, e, ha⟩ := own_el h
  rcases wipeD_at e with z | ⟨z1, _⟩
  · cases z
  · exact own_mk z1 ha
/-- back from the block -/
theorem aft_unwipe (g1 : RG K H σ Γ1) (a : Aft K H (wipeD Γ1 vs) H' (wipe σ vs) Γ') : Aft K H Γ1 H' σ (unwipe Γ' Γ1 vs) ∧ ∀ p, own (unwipe Γ' Γ1 vs) p → own Γ' p ∨ own Γ1 p := by
  have gw := rg_wipe (vs := vs) g1
  have im := a.imm gw
  have up : ∀ {i : Nat} {v : V}, (wipe σ vs)[i]? = some (some v) → σ[i]? = some (some v) := fun e => (wipe_some e).1
  -- an owned slot that was wiped stays apart
  have nown : ∀ {i : Nat} {p : Addr} {o : O}, i ∈ vs → Γ1[i]? = some (.ow p o) → ∀ b ∈ p :: o.fp, ¬ own (wipeD Γ1 vs) b := fun {i p o} hi e b hb hz => by
    obtain ⟨k, q2, o2, z, h2⟩ := own_el hz
    rcases wipeD_at z with z | ⟨z1, z2⟩
    · cases z
    · have := g1.one' e z1 hb h2
      subst this
      exact z2 hi
  have apart : ∀ {i j : Nat} {p q b : Addr} {o o' : O}, i ∈ vs → Γ1[i]? = some (.ow p o) → Γ'[j]? = some (.ow q o') → b ∈ p :: o.fp → b ∈ q :: o'.fp → False := fun {i j p q b o o'} hi e e' h1 h2 => by
    rcases a.sh b (own_mk e' h2) with z | z
    · exact nown hi e b h1 z
    · exact g1.there (own_mk e h1) z
  have ow2 : ∀ p, own (unwipe Γ' Γ1 vs) p → own Γ' p ∨ own Γ1 p := fun p hp => by
    obtain ⟨i, q, o, e, ha⟩ := own_el hp
    rcases unwipe_at e with ⟨z, _⟩ | ⟨_, z⟩
    · exact .inl (own_mk z ha)
    · rcases z with z | z
      · cases z
      · exact .inr (own_mk z ha)
  refine ⟨⟨fun c u e n => a.keep c u e fun z => n (own_wipe z), ⟨?_, fun i d e => ?_, fun i p o e => ?_, fun i v e => ?_, one_mk fun i j p p' o o' b e e' ha hb => ?_, a.rg.tb⟩, fun c q => ?_, im⟩, ow2⟩
  · rw [unwipe_len, a.rg.len, wipe_length]
  · rcases unwipe_at e with ⟨z, _⟩ | ⟨_, z⟩
    · obtain ⟨v, h1, h2⟩ := a.rg.fz _ _ z
      exact ⟨v, up h1, h2⟩
    · rcases z with z | z
      · cases z
      · obtain ⟨v, h1, h2⟩ := g1.fz _ _ z
        exact ⟨v, h1, h2.imm im⟩
  · rcases unwipe_at e with ⟨z, _⟩ | ⟨hi, z⟩
    · obtain ⟨h1, h2⟩ := a.rg.ow _ _ _ z
      exact ⟨up h1, h2⟩
    · rcases z with z | z
      · cases z
      · obtain ⟨h1, h2⟩ := g1.ow _ _ _ z
        exact ⟨h1, h2.keepN (fun b hb u q => a.keep _ _ q (nown hi z b hb)) im⟩
  · rcases unwipe_at e with ⟨z, _⟩ | ⟨_, z⟩
    · exact up (a.rg.raw _ _ z)
    · rcases z with z | z
      · cases z
      · exact g1.raw _ _ z
  · rcases unwipe_at e with ⟨z, _⟩ | ⟨hi, z⟩
    · rcases unwipe_at e' with ⟨z', _⟩ | ⟨hj, z'⟩
      · exact a.rg.one' z z' ha hb
      · rcases z' with z' | z'
        · cases z'
        · exact (apart hj z' z hb ha).elim
    · rcases z with z | z
      · cases z
      · rcases unwipe_at e' with ⟨z', _⟩ | ⟨hj, z'⟩
        · exact (apart hi z z' ha hb).elim
        · rcases z' with z' | z'
          · cases z'
          · exact g1.one' z z' ha hb
  · rcases ow2 c q with z | z
    · rcases a.sh c z with w | w
      · exact .inl (own_wipe w)
      · exact .inr w
    · exact .inl z
end
theorem wipe_wipe (σ : Sl) (vs : List Nat) : wipe (wipe σ vs) vs = wipe σ vs := by
  have idem : ∀ (us ws : List Nat) (τ : Sl), (∀ u ∈ us, u ∈ ws) → wipe (wipe τ ws) us = wipe τ ws := by
    intro us ws τ
    induction us with
    | nil => intro _; rfl
    | cons u us ih =>
      intro h
      show (wipe (wipe τ ws) us).set u none = wipe τ ws
      rw [ih fun z hz => h z (List.mem_cons_of_mem _ hz)]
      have hu := h u List.mem_cons_self
      clear ih h
      induction ws with
      | nil => cases hu
      | cons w ws ih =>
        show ((wipe τ ws).set w none).set u none = (wipe τ ws).set w none
        by_cases e : u = w
        · subst e; rw [List.set_set]
        · have hu' : u ∈ ws := by simpa [e] using hu
          rw [List.set_comm _ _ (Ne.symm e), ih hu']
  exact idem vs vs σ fun _ h => h
structure PBs (X : Cx) (ifs : List Expr) (t : TB) : Prop where
  run : PTs X ifs (liftB X.K t)
  mono : MonoB t
def tbYes : TB := fun Γ Q => Q true Γ
theorem PTs.imp {ifs : List Expr} {t t' : TT} (h : PTs X ifs t) (hi : ∀ σ H Q, t' σ H Q → t σ H Q) : PTs X ifs t' := ⟨fun pins s σ H Q I q => h.run pins s σ H Q I (hi _ _ _ q)⟩
theorem pbs_nil : PBs X [] tbYes := ⟨PTs.imp pts_nil fun σ H Q ⟨Γ, g, q⟩ => q H (Aft.refl g), fun Γ Q Q' h q => h _ _ q⟩
theorem pbs_one {c : Expr} {t : TB} (h : PB X c t) : PBs X [c] t := ⟨pts_one h.run, h.mono⟩
structure MonoC (tg : TGD) (tt : TB) (te : TD) : Prop where
  mg : ∀ d Γ (Q Q' : G → Prop), (∀ Γ', Q Γ' → Q' Γ') → tg d Γ Q → tg d Γ Q'
  mt : MonoB tt
  me : Mono te
structure LcR (ds : List D) (lk : Lk) (Γ1 : G) (tg : TGD) (tt : TB) (te : TD) (vs : List Nat) (Q : SV → G → Prop) : Prop where
  out : ∃ inv : List D → List D → List D → G → Prop, inv [] ds [] (wipeD Γ1 vs) ∧
    (∀ done rest acc Γ, done ++ rest = ds → inv done rest acc Γ → lkOk lk Γ) ∧
    (∀ done d rest acc Γ, done ++ d :: rest = ds → inv done (d :: rest) acc Γ → tg d Γ fun Γ2 => tt Γ2 fun b Γ3 => Br b (te Γ3 fun r Γ4 => ∃ x, r = .fz x ∧ inv (done ++ [d]) rest (acc ++ [x]) (wipeD Γ4 vs)) (inv (done ++ [d]) rest acc (wipeD Γ3 vs))) ∧
    ∀ acc Γ, inv ds [] acc Γ → ∀ p, Q (.ow p (.lst acc)) (unwipe Γ Γ1 vs)
def tdLc (ti : TID) (tg : TGD) (tt : TB) (te : TD) (vs : List Nat) : TD := fun Γ Q => ti Γ fun ds lk Γ1 => MonoC tg tt te → LcR ds lk Γ1 tg tt te vs Q
/-- the reading of the comprehension at the layer's level, from that over data -/
theorem tdLc_ok {K : PySem.W.Frag} {ti : TID} {tgd : TGD} {tt : TB} {te : TD} {vs : List Nat} (mi : MonoI ti) (mg : ∀ d Γ (Q Q' : G → Prop), (∀ Γ', Q Γ' → Q' Γ') → tgd d Γ Q → tgd d Γ Q') (mt : MonoB tt) (me : Mono te)
    {σ : Sl} {H : Hp} {Q : VK} (q : lift K (tdLc ti tgd tt te vs) σ H Q) :
    tLc (liftI K ti) (fun v σ H Q => ∃ Γ d, RG K H σ Γ ∧ Rep K H d v ∧ tgd d Γ fun Γ' => ∀ σ', Aft K H Γ H σ' Γ' → wipe σ' vs = wipe σ vs → Q σ' H) (liftB K tt) (lift K te) vs σ H Q := by
  obtain ⟨Γ, g0, q⟩ := q
  refine ⟨Γ, g0, mi _ _ _ (fun ds lk Γ1 q J H1 St a1 src stb l hl => ?_) q⟩
  obtain ⟨inv, i0, il, turn, last⟩ := (q ⟨mg, mt, me⟩).out
  have g1 := a1.rg
  have gw := rg_wipe (vs := vs) g1
  have s1 : Same H1 (upd H1 l (.lst [])) := same_upd hl
  have b0 : Aft K H1 (wipeD Γ1 vs) (upd H1 l (.lst [])) (wipe σ vs) (wipeD Γ1 vs) := Aft.same gw s1
  refine ⟨fun i m H' => ∃ done rest acc Γ' ws, done ++ rest = ds ∧ i = done.length ∧ m = rest.length ∧ acc.length ≤ done.length ∧ Aft K H1 (wipeD Γ1 vs) H' (wipe σ vs) Γ' ∧ H' l = some (.lst ws) ∧ Reps K H' acc ws ∧ ¬ own Γ' l ∧ inv done rest acc Γ',
    ⟨ds.length, [], ds, [], wipeD Γ1 vs, [], rfl, rfl, rfl, Nat.le_refl _, b0, upd_same, rfl, fun z => gw.there z hl, i0⟩, ?_⟩
  rintro i m H2 ⟨done, rest, acc, Γ2, ws, e, rfl, rfl, hac, a2, el, rl, nl, i2⟩
  have st2 : St H2 := stb H2 _ Γ2 (a2.imm gw) a2.rg (il done rest acc Γ2 e i2)
  cases rest with
  | nil =>
    rw [List.append_nil] at e
    subst e
    obtain ⟨a3, ow3⟩ := aft_unwipe g1 a2
    refine .inl ⟨src.stop H2 st2, last acc Γ2 i2 l (.ref l) H2 (a1.trans g0 a3) ⟨rfl, ⟨ws, el, rl⟩, fp1 rfl fun z => ?_, fp1 rfl (a1.fresh (.inr hl))⟩⟩
    rcases ow3 l z with z | z
    · exact nl z
    · exact g1.there z hl
  | cons d rest =>
    have ed : ds[done.length]? = some d := by
      rw [← e, List.getElem?_append_right (Nat.le_refl _), Nat.sub_self]
      rfl
    have hlt : done.length < ds.length := by rw [← e, List.length_append, List.length_cons]; omega
    refine .inr ⟨src.go _ H2 st2 hlt, fun H' => ∃ acc' Γ' ws', acc'.length ≤ (done ++ [d]).length ∧ Aft K H1 (wipeD Γ1 vs) H' (wipe σ vs) Γ' ∧ H' l = some (.lst ws') ∧ Reps K H' acc' ws' ∧ ¬ own Γ' l ∧ inv (done ++ [d]) rest acc' Γ', fun H' ⟨acc', Γ', ws', z1, z2, z3, z4, z5, z6⟩ => ⟨rest.length, by simp, done ++ [d], rest, acc', Γ', ws', by rw [← e]; simp, by simp, rfl, z1, z2, z3, z4, z5, z6⟩, fun x H3 y => ?_⟩
    obtain ⟨sm, rx⟩ := src.yld _ d H2 x H3 st2 ed y
    have a3 := Aft.same a2.rg sm
    have a13 := a2.trans gw a3
    -- l stays l
    have keepl : ∀ {H H' : Hp} {σ' σ'' : Sl} {Γ Γ' : G} {us : List V}, RG K H σ'' Γ → Aft K H Γ H' σ' Γ' → H l = some (.lst us) → ¬ own Γ l → H' l = some (.lst us) ∧ ¬ own Γ' l := fun {H H' σ' σ'' Γ Γ' us} g a e n => by
      refine ⟨a.keep _ _ e n, fun z => ?_⟩
      rcases a.sh l z with z | z
      · exact n z
      · rw [e] at z; cases z
    refine ⟨Γ2, d, a3.rg, rx, mg _ _ _ _ (fun Γ4 q σ4 a4 hw => ?_) (turn done d rest acc Γ2 e i2)⟩
    refine ⟨hw.trans (wipe_wipe σ vs), Γ4, a4.rg, mt _ _ _ (fun b Γ5 q H5 a5 => ?_) q⟩
    obtain ⟨l3, n3⟩ := keepl a2.rg a3 el nl
    obtain ⟨l4, n4⟩ := keepl a3.rg a4 l3 n3
    obtain ⟨l5, n5⟩ := keepl a4.rg a5 l4 n4
    have im5 : Imm H2 H5 := ((imm_same sm).trans (a4.imm a3.rg)).trans (a5.imm a4.rg)
    -- the slots of the block forgotten again
    have wiped : ∀ {H' : Hp} {Γ' : G}, Aft K H1 (wipeD Γ1 vs) H' σ4 Γ' → Aft K H1 (wipeD Γ1 vs) H' (wipe σ vs) (wipeD Γ' vs) := fun {H' Γ'} a => by
      refine ⟨a.keep, ?_, fun c z => a.sh c (own_wipe z), a.im⟩
      have := rg_wipe (vs := vs) a.rg
      rw [hw, wipe_wipe] at this
      exact this
    have a15 := (a13.trans gw a4).trans gw a5
    rw [br_iff] at q
    split at q
    · rename_i eb
      rw [if_pos eb]
      refine ⟨Γ5, a5.rg, me _ _ _ (fun r Γ6 q v H6 a6 r6 => ?_) q⟩
      obtain ⟨x', rfl, i6⟩ := q
      obtain ⟨l6, n6⟩ := keepl a5.rg a6 l5 n5
      have im6 := im5.trans (a6.imm a5.rg)
      have mu : MuL (H6 l) := by rw [l6]; trivial
      have im7 : Imm H6 (upd H6 l (.lst (ws ++ [v]))) := Imm.upd (.inr mu)
      have hlen : acc.length < ds.length := Nat.lt_of_le_of_lt hac hlt
      refine ⟨ws, l6, by rw [rl.len]; exact Nat.lt_of_lt_of_le hlen src.le, acc ++ [x'], wipeD Γ6 vs, ws ++ [v], ?_, ?_, upd_same, ?_, fun z => n6 (own_wipe z), i6⟩
      · rw [List.length_append, List.length_append]
        exact Nat.add_le_add_right hac 1
      · have a16 := wiped (a15.trans gw a6)
        refine ⟨fun c u z1 z2 => ?_, ?_, a16.sh, a16.im.trans im7⟩
        · have nc : c ≠ l := fun z => by rw [z, hl] at z1; cases z1
          rw [upd_ne nc]
          intro _
          exact a16.keep c u z1 z2
        · have g6 := a16.rg
          refine ⟨g6.len, fun j dd z => ?_, fun j p o z => ?_, g6.raw, g6.one, g6.tbm im7⟩
          · obtain ⟨w, w1, w2⟩ := g6.fz _ _ z
            exact ⟨w, w1, w2.imm im7⟩
          · obtain ⟨w1, w2⟩ := g6.ow _ _ _ z
            exact ⟨w1, w2.keep (fun a ha u => keep_upd a u fun y => n6 (by rw [← y]; exact own_wipe (own_mk z ha))) im7⟩
      · exact ((rl.imm im6).append (Reps.one r6)).imm im7
    · rename_i eb
      rw [if_neg eb]
      refine ⟨acc, wipeD Γ5 vs, ws, ?_, wiped a15, l5, rl.imm im5, fun z => n5 (own_wipe z), q⟩
      rw [List.length_append]
      exact Nat.le_succ_of_le hac
variable {ti : TID} {tgd : TGD} {tt : TB} {te : TD} {ifs : List Expr} {scope : Scope}
theorem tdLc_mono {vs : List Nat} (mi : MonoI ti) (mg : ∀ d Γ (Q Q' : G → Prop), (∀ Γ', Q Γ' → Q' Γ') → tgd d Γ Q → tgd d Γ Q') (mt : MonoB tt) (me : Mono te) : Mono (tdLc ti tgd tt te vs) := fun Γ Q Q' hq =>
  mi _ _ _ fun ds lk Γ1 q mc => let ⟨inv, i0, il, turn, last⟩ := (q mc).out; ⟨inv, i0, il, turn, fun acc Γ2 i2 p => hq _ _ (last acc Γ2 i2 p)⟩
theorem pd_lc (own : List (Str × Nat)) (hc : X.calm = true) (hN : X.N.Nodup) (hi : PID X tg iter ti) (ok : BlkOk X.N X.env.scope scope own) (hg : ∀ (s : Shared) (H : Hp) (C : Addr) (cl : List (Str × Addr)) (fp : List Addr), PGC (X.blk s H scope (compEnvC scope cl C X.env) fp) tg (own.map (·.2)) tgd)
    (ht : ∀ (s : Shared) (H : Hp) (C : Addr) (cl : List (Str × Addr)) (fp : List Addr), PBs (X.blk s H scope (compEnvC scope cl C X.env) fp) ifs tt) (he : ∀ (s : Shared) (H : Hp) (C : Addr) (cl : List (Str × Addr)) (fp : List Addr), PD (X.blk s H scope (compEnvC scope cl C X.env) fp) elt te)
    (hs : ∀ x, foldedSetIterable iter X.env x = pure x := by intro _; rfl) : PD X (.ListComp elt [⟨tg, iter, ifs, 0⟩] scope pos) (tdLc ti tgd tt te (own.map (·.2))) := by
  -- the parts' readings do not hang on the block's entry
  have h0 := hg X.s_0 X.H_0 0 [] []
  have h1 := ht X.s_0 X.H_0 0 [] []
  have h2 := he X.s_0 X.H_0 0 [] []
  exact ⟨PE.imp (pe_lc hc hN hi.run ok (fun s H C cl fp => (hg s H C cl fp).run) (fun s H C cl fp => (ht s H C cl fp).run) (fun s H C cl fp => (he s H C cl fp).run) hs) fun σ H Q q => tdLc_ok hi.mono h0.mono h1.mono h2.mono q, tdLc_mono hi.mono h0.mono h1.mono h2.mono⟩
/-- name = [..] on one line -/
theorem pd_setLc (i : Nat) (own : List (Str × Nat)) {y : Str} {py spos : Pos} (hc : X.calm = true) (hN : X.N.Nodup) (hi : PID X tg iter ti) (ok : BlkOk X.N X.env.scope scope own) (hg : ∀ (s : Shared) (H : Hp) (C : Addr) (cl : List (Str × Addr)) (fp : List Addr), PGC (X.blk s H scope (compEnvC scope cl C X.env) fp) tg (own.map (·.2)) tgd)
    (ht : ∀ (s : Shared) (H : Hp) (C : Addr) (cl : List (Str × Addr)) (fp : List Addr), PBs (X.blk s H scope (compEnvC scope cl C X.env) fp) ifs tt) (he : ∀ (s : Shared) (H : Hp) (C : Addr) (cl : List (Str × Addr)) (fp : List Addr), PD (X.blk s H scope (compEnvC scope cl C X.env) fp) elt te)
    (hsw : swapsWith (.ListComp elt [⟨tg, iter, ifs, 0⟩] scope pos) (some (.Name y py)) spos.line X.env = pure true := by first | rfl | exact sw_true rfl rfl rfl (by decide +kernel)) (hy : X.N[i]? = some y := by rfl) (hyl : X.env.scope.names.lookup y = some .local := by rfl)
    (hs : ∀ x, foldedSetIterable iter X.env x = pure x := by intro _; rfl) : PDS X (.Assign [.Name y py] (.ListComp elt [⟨tg, iter, ifs, 0⟩] scope pos) spos) (tsSet i (tdLc ti tgd tt te (own.map (·.2)))) := by
  have h0 := hg X.s_0 X.H_0 0 [] []
  have h1 := ht X.s_0 X.H_0 0 [] []
  have h2 := he X.s_0 X.H_0 0 [] []
  have mo := tdLc_mono (vs := own.map (·.2)) hi.mono h0.mono h1.mono h2.mono
  refine ⟨fun W tk => PS.imp (ps_setLc hc hN hy hyl hsw hi.run ok (fun s H C cl fp => (hg s H C cl fp).run) (fun s H C cl fp => (ht s H C cl fp).run) (fun s H C cl fp => (he s H C cl fp).run) hs) fun D σ H ⟨Γ, g, q⟩ => tdLc_ok hi.mono h0.mono h1.mono h2.mono ⟨Γ, g, mo _ _ _ (fun r Γ' q v H' a rs => ?_) q⟩, fun D D' Γ h => mo _ _ _ fun r Γ' q => ⟨q.1, h.nx _ q.2⟩⟩
  exact q.2 _ H' (aft_set a rs q.1)
end
end DL
/-! DL11: methods that change a list of one's own; x[i] = v. -/
namespace DL
open PySem PySem.Spec PyProof.Rows L2
def oTy : O → String
  | .lst _ => "list"
  | .dI _ => "dict"
  | .dT _ => "dict"
  | .nest .lst _ => "list"
  | .nest (.dS _) _ => "dict"
  | _ => "?"
theorem OwnOk.ty {K : PySem.W.Frag} {H : Hp} {p : Addr} {o : O} {T : String} (h : OwnOk K H p o) (e : oTy o = T) (ne : T ≠ "?") : tyV K T (.ref p) H := by
  subst e
  cases o with
  | lst ds => obtain ⟨vs, e, _⟩ := h; exact .inl ⟨rfl, vs, .of e⟩
  | dI kvs => obtain ⟨vs, e, _⟩ := h; exact .inr (.inr (.inl ⟨rfl, .inl ⟨vs, e⟩⟩))
  | dT kvs => obtain ⟨vs, e, _⟩ := h; exact .inr (.inr (.inl ⟨rfl, .inr ⟨vs, e⟩⟩))
  | dR kvs => exact absurd rfl ne
  | tup ds => exact absurd rfl ne
  | nest sh cs =>
    obtain ⟨vs, e, _⟩ := h
    cases sh with
    | tup => exact absurd rfl ne
    | ins c dx ns => exact absurd rfl ne
    | lst => exact .inl ⟨rfl, vs, .of e⟩
    | dS ks => exact .inr (.inr (.inl ⟨rfl, .inl ⟨_, e.2⟩⟩))
/-- the object of the slot i changed -/
theorem aft_upd {K : PySem.W.Frag} {H H1 H2 : Hp} {σ : Sl} {Γ Γ1 : G} {i : Nat} {p : Addr} {o o' : O} (g : RG K H σ Γ) (a : Aft K H Γ H1 σ Γ1) (e : Γ1[i]? = some (.ow p o)) (k : ∀ q u, q ≠ p → H1 q = some u → H2 q = some u) (im : Imm H1 H2) (ok : OwnOk K H2 p o') (hfp : o'.fp = o.fp := by rfl) :
    Aft K H Γ H2 σ (Γ1.set i (.ow p o')) := by
  have hi : i < Γ1.length := by
    rcases Nat.lt_or_ge i Γ1.length with h | h
    · exact h
    · rw [List.getElem?_eq_none h] at e; cases e
  have at_ : ∀ (j : Nat) (s : SV), (Γ1.set i (.ow p o'))[j]? = some s → (j = i ∧ s = .ow p o') ∨ (j ≠ i ∧ Γ1[j]? = some s) := fun j s q => by
    by_cases z : j = i
    · subst z
      rw [List.getElem?_set_self hi] at q
      exact .inl ⟨rfl, (Option.some.inj q).symm⟩
    · rw [List.getElem?_set_ne (Ne.symm z)] at q
      exact .inr ⟨z, q⟩
  have ne : ∀ {j : Nat} {q : Addr} {o1 : O}, j ≠ i → Γ1[j]? = some (.ow q o1) → ∀ b ∈ q :: o1.fp, b ∉ p :: o.fp := fun {j q o1} n z b hb z2 => n (a.rg.one' z e hb z2)
  have z1 := (a.rg.ow _ _ _ e).1
  refine ⟨fun c u h n => ?_, ⟨by rw [List.length_set]; exact a.rg.len, fun j d q => ?_, fun j q o1 z => ?_, fun j v q => ?_, one_mk fun j j' q q' o1 o2 b w w' ha hb => ?_, a.rg.tbm im⟩, fun c hc => ?_, a.im.trans im⟩
  · have nc : c ≠ p := fun z => by
      subst z
      rcases a.sh c (own_p e) with f | f
      · exact n f
      · rw [f] at h; cases h
    intro _
    exact k c u nc (a.keep c u h n)
  · rcases at_ j _ q with ⟨_, z⟩ | ⟨_, z⟩
    · cases z
    · obtain ⟨v, h1, h2⟩ := a.rg.fz _ _ z
      exact ⟨v, h1, h2.imm im⟩
  · rcases at_ j _ z with ⟨rfl, y⟩ | ⟨n, y⟩
    · cases y
      exact ⟨z1, ok⟩
    · obtain ⟨h1, h2⟩ := a.rg.ow _ _ _ y
      exact ⟨h1, h2.keep (fun b hb u => k b u fun z => ne n y b hb (by rw [z]; exact List.mem_cons_self)) im⟩
  · rcases at_ j _ q with ⟨_, z⟩ | ⟨_, z⟩
    · cases z
    · exact a.rg.raw _ _ z
  · rcases at_ j _ w with ⟨rfl, y⟩ | ⟨n, y⟩
    · rcases at_ j' _ w' with ⟨rfl, y'⟩ | ⟨n', y'⟩
      · rfl
      · cases y
        rw [hfp] at ha
        exact absurd ha (ne n' y' b hb)
    · rcases at_ j' _ w' with ⟨rfl, y'⟩ | ⟨n', y'⟩
      · cases y'
        rw [hfp] at hb
        exact absurd hb (ne n y b ha)
      · exact a.rg.one' y y' ha hb
  · obtain ⟨j, q0, o1, q, ha⟩ := own_el hc
    rcases at_ j _ q with ⟨rfl, y⟩ | ⟨n, y⟩
    · cases y
      rw [hfp] at ha
      exact a.sh c (own_mk e ha)
    · exact a.sh c (own_mk y ha)
/-! ### methods -/
abbrev GM := O → List D → (D → O → Prop) → Prop
structure MtD (X : Cx) (T id : String) (g : GM) : Prop where
  fl : ∀ (o : O) (ds : List D) (k : D → O → Prop), g o ds k → g o ds fun z o' => o'.fp = o.fp ∧ k z o'
  ok : ∃ r, MtR X id r ∧ ∀ (H : Hp) (p : Addr) (o : O) (ds : List D) (vs : List V) (Q : VK), OwnOk X.K H p o → Reps X.K H ds vs →
    g o ds (fun z o' => ∀ w H', (∀ q u, q ≠ p → H q = some u → H' q = some u) → Imm H H' → OwnOk X.K H' p o' → Rep X.K H' z w → Q w H') → r (.ref p) vs H Q
  mono : ∀ o ds (k k' : D → O → Prop), (∀ z o', k z o' → k' z o') → g o ds k → g o ds k'
def tdMt (i : Nat) (T : String) (g : GM) (t : TAD) : TD := fun Γ Q => match Γ[i]? with
  | some (.ow _ o0) => oTy o0 = T ∧ t Γ fun rs Γ1 => fzs rs fun ds => (match Γ1[i]? with
    | some (.ow p o) => g o ds fun z o' => Q (.fz z) (Γ1.set i (.ow p o'))
    | _ => False)
  | _ => False
section
variable {X : Cx} {T id : String} {name : Str} {g : GM} {x : Str} {e : Expr} {es : List Expr} {t : TAD} {p apos cpos : Pos}
theorem tdMt_mono (h : MtD X T id g) (i : Nat) (m : MonoA t) : Mono (tdMt i T g t) := fun Γ Q Q' hq q => by
  unfold tdMt at q ⊢
  split at q
  · refine ⟨q.1, m _ _ _ (fun rs Γ1 => fzs_mono fun ds q => ?_) q.2⟩
    split at q
    · exact h.mono _ _ _ _ (fun z o' => hq _ _) q
    · exact q
  · exact q
theorem pd_mt (i : Nat) (h : MtD X T id g) (pa : PlainAttrs T) (slot : Slot T name id) (hty : typeOf (.builtin id) = pure (.type "method_descriptor")) (ho : PE X (.Name x p) (tVar i)) (ha : PAD X (e :: es) t)
    (hbase : attributeBase (.Name x p) name X.env (eval (.Name x p) X.env) = eval (.Name x p) X.env := by rfl)
    (hfew : ((backTo cpos (starEach (e :: es) X.env)).all (fun x => !x.1) && (backToKw cpos (keywordEach [] X.env)).all (fun x => x.1.isSome) && decide ((e :: es).length + ([] : List Keyword).length + (if ([] : List Keyword).isEmpty then 0 else 1) < 30)) = true := by rfl)
    (hline : (apos.endLine == cpos.line) = true := by rfl) (hs : starEach (e :: es) X.env = (false, eval e X.env) :: starEach es X.env := by rfl) (hpl : (backTo cpos (starEach es X.env)).any (·.1) = false := by rfl) (hT : T ≠ "?" := by decide) :
    PD X (.Call (.Attribute (.Name x p) name apos) (e :: es) [] cpos) (tdMt i T g t) := by
  obtain ⟨r, hm, hr⟩ := h.ok
  refine ⟨PE.imp (pe_bm pa slot hty hm ho ha.run hbase hfew hline hs hpl) fun σ H Q ⟨Γ, g0, q⟩ => ?_, tdMt_mono h i ha.mono⟩
  unfold tdMt at q
  split at q
  · rename_i p0 o0 e0
    obtain ⟨z1, z2⟩ := g0.ow _ _ _ e0
    refine ⟨.ref p0, z1, z2.ty q.1 hT, Γ, g0, ha.mono _ _ _ (fun rs Γ1 q vs H1 a1 rr => ?_) q.2⟩
    obtain ⟨ds, rp, q⟩ := fzs_ok rr q
    split at q
    · rename_i p1 o1 e1
      obtain ⟨w1, w2⟩ := a1.rg.ow _ _ _ e1
      rw [z1] at w1
      cases w1
      refine hr H1 p0 o1 ds vs Q w2 rp (h.mono _ _ _ _ (fun z o' ⟨hf, q⟩ => ?_) (h.fl _ _ _ q))
      intro w H2 k im ok rz
      exact q w H2 (aft_upd g0 a1 e1 k im ok hf) rz
    · exact q.elim
  · exact q.elim
theorem pd_mt0 (i : Nat) (h : MtD X T id g) (pa : PlainAttrs T) (slot : Slot T name id) (hty : typeOf (.builtin id) = pure (.type "method_descriptor")) (ho : PE X (.Name x p) (tVar i))
    (hbase : attributeBase (.Name x p) name X.env (eval (.Name x p) X.env) = eval (.Name x p) X.env := by rfl) (hline : (apos.endLine == cpos.line) = true := by rfl) (hT : T ≠ "?" := by decide) :
    PD X (.Call (.Attribute (.Name x p) name apos) [] [] cpos) (tdMt i T g taNil) := by
  obtain ⟨r, hm, hr⟩ := h.ok
  refine ⟨PE.imp (pe_bm0 pa slot hty hm ho hbase hline) fun σ H Q ⟨Γ, g0, q⟩ => ?_, tdMt_mono h i fun Γ Q Q' h q => h _ _ q⟩
  unfold tdMt at q
  split at q
  · rename_i p0 o0 e0
    obtain ⟨z1, z2⟩ := g0.ow _ _ _ e0
    refine ⟨.ref p0, z1, z2.ty q.1 hT, ?_⟩
    have q := q.2
    simp only [taNil, fzs, e0] at q
    refine hr H p0 o0 [] [] Q z2 rfl (h.mono _ _ _ _ (fun z o' ⟨hf, q⟩ => ?_) (h.fl _ _ _ q))
    intro w H2 k im ok rz
    exact q w H2 (aft_upd g0 (Aft.refl g0) e0 k im ok hf) rz
  · exact q.elim
theorem upd_k {H : Hp} {p : Addr} {o : HO} : ∀ q u, q ≠ p → H q = some u → upd H p o q = some u := keep_upd
def gApp : GM := fun o ds k => match o, ds with
  | .lst xs, [d] => xs.length < sizeLine ∧ k .none (.lst (xs ++ [d]))
  | _, _ => False
theorem mt_app : MtD X "list" "list.append" gApp := by
  refine ⟨fun o ds k q => by
    unfold gApp at q ⊢
    split at q
    · exact ⟨q.1, rfl, q.2⟩
    · exact q, ⟨_, mt_append, fun H p o ds vs Q ok rp q => ?_⟩, fun o ds k k' h q => ?_⟩
  · unfold gApp at q
    split at q
    · obtain ⟨ws, e, rw'⟩ := ok
      obtain ⟨v, w, rfl, r1, r2⟩ := rp
      cases (show w = [] from r2)
      have im : Imm H (upd H p (.lst (ws ++ [v]))) := Imm.upd (.inr (by rw [e]; trivial))
      exact ⟨p, ws, v, rfl, rfl, e, by rw [rw'.len]; exact q.1, q.2 .non _ upd_k im ⟨_, upd_same, (rw'.append (Reps.one r1)).imm im⟩ rfl⟩
    · exact q.elim
  · unfold gApp at q ⊢
    split at q
    · exact ⟨q.1, h _ _ q.2⟩
    · exact q
theorem ixN_nn {n : Nat} {i : Int} (h0 : 0 ≤ i) (h1 : i < n) : ixN n i = some i.toNat := by
  unfold ixN
  rw [if_pos h0, if_pos h1]
/-- pop(i), i from 0 on -/
def gPopAt : GM := fun o ds k => match o, ds with
  | .lst xs, [.int i] => (0 ≤ i ∧ i < 2 ^ 63) ∧ (match xs[i.toNat]? with
    | some d => k d (.lst (xs.eraseIdx i.toNat))
    | none => False)
  | _, _ => False
theorem mt_popi : MtD X "list" "list.pop" gPopAt := by
  refine ⟨fun o ds k q => by
    unfold gPopAt at q ⊢
    split at q
    · obtain ⟨q1, q⟩ := q
      refine ⟨q1, ?_⟩
      split at q
      · exact ⟨rfl, q⟩
      · exact q
    · exact q, ⟨_, mt_popAt, fun H p o ds vs Q ok rp q => ?_⟩, fun o ds k k' h q => ?_⟩
  · unfold gPopAt at q
    split at q
    · rename_i xs i
      obtain ⟨ws, e, rw'⟩ := ok
      obtain ⟨v, w, rfl, r1, r2⟩ := rp
      cases (show w = [] from r2)
      obtain ⟨⟨h0, h1⟩, q⟩ := q
      split at q
      · rename_i d ed
        obtain ⟨u, eu, ru⟩ := rw'.get ed
        have hlt : i.toNat < ws.length := (List.getElem?_eq_some_iff.mp eu).1
        have hs : seqIndex? i ws.length = some i.toNat := (ixN_seq (ixN_nn h0 (by omega))).1
        have im : Imm H (upd H p (.lst (ws.eraseIdx i.toNat))) := Imm.upd (.inr (by rw [e]; trivial))
        exact ⟨p, ws, i, i.toNat, u, rfl, by rw [show v = V.int i from r1], e, by omega, h1, hs, eu, q u _ upd_k im ⟨_, upd_same, (rw'.eraseIdx _).imm im⟩ (ru.imm im)⟩
      · exact q.elim
    · exact q.elim
  · unfold gPopAt at q ⊢
    split at q
    · refine ⟨q.1, ?_⟩
      have q := q.2
      split at q
      · exact h _ _ q
      · exact q
    · exact q
def gClr : GM := fun o ds k => match o, ds with
  | .lst _, [] => k .none (.lst [])
  | _, _ => False
theorem mt_clr : MtD X "list" "list.clear" gClr := by
  refine ⟨fun o ds k q => by
    unfold gClr at q ⊢
    split at q
    · exact ⟨rfl, q⟩
    · exact q, ⟨_, mt_clear, fun H p o ds vs Q ok rp q => ?_⟩, fun o ds k k' h q => ?_⟩
  · unfold gClr at q
    split at q
    · obtain ⟨ws, e, rw'⟩ := ok
      cases (show vs = [] from rp)
      have im : Imm H (upd H p (.lst [])) := Imm.upd (.inr (by rw [e]; trivial))
      exact ⟨p, ws, rfl, rfl, e, q .non _ upd_k im ⟨_, upd_same, rfl⟩ rfl⟩
    · exact q.elim
  · unfold gClr at q ⊢
    split at q
    · exact h _ _ q
    · exact q

/-! ### x[i] = v -/
abbrev GP := O → D → D → (O → Prop) → Prop
def tsPut (j : Nat) (te ti : TD) (g : GP) : TSD := fun E Γ => te Γ fun r Γ1 => match r, Γ1[j]? with
  | .fz d, some (.ow _ _) => ti Γ1 fun r2 Γ2 => dat Γ2 r2 fun k => (match Γ2[j]? with
    | some (.ow p o) => g o k d fun o' => E.nx (Γ2.set j (.ow p o'))
    | _ => False)
  | _, _ => False
/-- where index i lies, told so that it reckons on lists whose tail is not known -/
def posD (ds : List D) (i : Int) : Option Nat := match i with
  | .ofNat n => (match ds[n]? with
    | some _ => some n
    | none => none)
  | .negSucc n => if n < ds.length then some (ds.length - 1 - n) else none
theorem posD_ok {ds : List D} {i : Int} {n : Nat} (h : posD ds i = some n) : ixN ds.length i = some n := by
  cases i with
  | ofNat m =>
    change (match ds[m]? with | some _ => some m | none => none) = some n at h
    split at h
    · rename_i d e
      have hm : m = n := Option.some.inj h
      subst hm
      have := (List.getElem?_eq_some_iff.mp e).1
      exact ixN_nn (i := Int.ofNat m) (Int.natCast_nonneg m) (Int.ofNat_lt.mpr this)
    · cases h
  | negSucc m =>
    change (if m < ds.length then some (ds.length - 1 - m) else none) = some n at h
    by_cases hm : m < ds.length
    · rw [if_pos hm] at h
      have hn : ds.length - 1 - m = n := Option.some.inj h
      have n0 : ¬ (0 : Int) ≤ Int.negSucc m := by omega
      have h2 : -(ds.length : Int) ≤ Int.negSucc m := by omega
      have h3 : (Int.negSucc m + (ds.length : Int)).toNat = n := by omega
      unfold ixN
      rw [if_neg n0, if_pos h2, h3]
    · rw [if_neg hm] at h
      cases h
def gPutL : GP := fun o k d c => match o, k with
  | .lst xs, .int i => (match posD xs i with
    | some n => c (.lst (xs.set n d))
    | none => False)
  | _, _ => False
theorem gPutL_mono {o : O} {a b : D} {k k' : O → Prop} (h : ∀ o, k o → k' o) (q : gPutL o a b k) : gPutL o a b k' := by
  unfold gPutL at q ⊢
  split at q
  · split at q
    · exact h _ q
    · exact q
  · exact q
variable {idx value : Expr} {te ti : TD} {spos tpos : Pos}
theorem pd_putL (j : Nat) (ho : PE X (.Name x p) (tVar j)) (hi : PD X idx ti) (hv : PD X value te)
    (hA : ∀ v, assign (.Subscript (.Name x p) idx tpos) X.env v = (do
      let ov ← holding [v] (eval (.Name x p) X.env)
      let iv ← holding [v, ov] (eval idx X.env)
      standAt tpos; holding [v, ov, iv] (setItem ov iv v); release [v, ov, iv] []) := by intro _; rfl)
    (hs1 : swapsWithSole [.Subscript (.Name x p) idx tpos] value spos.line X.env = pure false := by rfl) (hw1 : swappedStores [.Subscript (.Name x p) idx tpos] value X.env = pure none := by rfl)
    (hm1 : (assignEach [.Subscript (.Name x p) idx tpos] X.env).map (·.2) = [assign (.Subscript (.Name x p) idx tpos) X.env] := by rfl) :
    PDS X (.Assign [.Subscript (.Name x p) idx tpos] value spos) (tsPut j te ti gPutL) := by
  refine ⟨fun W tk => PS.imp (ps_asg hv.run (pg_sub ho hi.run set_list hA) hs1 hw1 hm1) fun D σ H ⟨Γ, g0, q⟩ => ⟨Γ, g0, hv.mono _ _ _ (fun r Γ1 q v H1 a1 r1 => ?_) q⟩, fun D D' Γ h => hv.mono _ _ _ fun r Γ1 q => ?_⟩
  · split at q
    · rename_i d p1 o1 e1
      obtain ⟨z1, _⟩ := a1.rg.ow _ _ _ e1
      refine ⟨_, z1, Γ1, a1.rg, hi.mono _ _ _ (fun r2 Γ2 q u H2 a2 r2' => ?_) q⟩
      have a12 := a1.trans g0 a2
      have rd : Rep X.K H2 d v := Rep.imm r1 (a2.imm a1.rg)
      obtain ⟨k, nk, q⟩ := dat_ok a2.rg r2' q
      split at q
      · rename_i p2 o2 e2
        obtain ⟨w1, w2⟩ := a2.rg.ow _ _ _ e2
        rw [z1] at w1
        cases w1
        unfold gPutL at q
        split at q
        · split at q
          · rename_i n en
            obtain ⟨ws, ew, rw'⟩ := w2
            have im : Imm H2 (upd H2 p1 (.lst (ws.set n v))) := Imm.upd (.inr (by rw [ew]; trivial))
            exact ⟨p1, ws, _, n, rfl, nk.int, ew, by rw [rw'.len]; exact posD_ok en, q σ _ (aft_upd g0 a12 e2 upd_k im ⟨_, upd_same, (rw'.set rd n).imm im⟩)⟩
          · exact q.elim
        · exact q.elim
      · exact q.elim
    · exact q.elim
  · split at q
    · refine hi.mono _ _ _ (fun r2 Γ2 => dat_mono fun k q => ?_) q
      split at q
      · exact gPutL_mono (fun o' => h.nx _) q
      · exact q
    · exact q
end
end DL
/-! DL12: set comprehensions of ints; sorted of such. -/
namespace DL
open PySem PySem.Spec PyProof.Rows L2
section
variable {X : Cx}
/-- {elt for target in iter if ..}, elt an int: C the new set -/
def tScI (w : World) (wi : TI) (g : TG) (tt : TT) (te : TE) (vs : List Nat) : TE := fun σ H Q => wi σ H fun J H1 => ∀ C, H1 C = none → ∃ W : Nat → Nat → Hp → Prop,
  (∃ m, W 0 m (upd H1 C (SetO w C (fun _ => false) 0))) ∧ ∀ i m H, W i m H → (J.stop i H ∧ Q (.ref C) H) ∨ (J.go i H ∧ ∃ Nx : Hp → Prop, (∀ H', Nx H' → ∃ m', m' < m ∧ W (i + 1) m' H') ∧
    ∀ x H', J.yld i H x H' → g x (wipe σ vs) H' fun σ2 H2 => wipe σ2 vs = wipe σ vs ∧ tt σ2 H2 fun b H3 => if b = true then te σ2 H3 fun y H4 => ∃ (k : Int) (S : Int → Bool) (n : Nat), y = .int k ∧ H4 C = some (SetO w C S n) ∧ n + 1 < scanBound ∧
      Nx (upd H4 C (SetO w C (fun j => S j || decide (j = k)) (if S k = true then n else n + 1))) else Nx H3)
theorem pe_scI {elt tg iter : Expr} {ifs : List Expr} {scope : Scope} {own : List (Str × Nat)} {pos : Pos} {wi : TI} {g : TG} {tt : TT} {te : TE} (hc : X.calm = true) (hN : X.N.Nodup) (hi : PI X tg iter wi) (ok : BlkOk X.N X.env.scope scope own)
    (hg : ∀ (s : Shared) (H : Hp) (C : Addr) (cl : List (Str × Addr)) (fp : List Addr), PG (X.blk s H scope (compEnvC scope cl C X.env) fp) tg g)
    (ht : ∀ (s : Shared) (H : Hp) (C : Addr) (cl : List (Str × Addr)) (fp : List Addr), PTs (X.blk s H scope (compEnvC scope cl C X.env) fp) ifs tt)
    (he : ∀ (s : Shared) (H : Hp) (C : Addr) (cl : List (Str × Addr)) (fp : List Addr), PE (X.blk s H scope (compEnvC scope cl C X.env) fp) elt te)
    (hs : ∀ x, foldedSetIterable iter X.env x = pure x := by intro _; rfl) : PE X (.SetComp elt [⟨tg, iter, ifs, 0⟩] scope pos) (tScI X.w wi g tt te (own.map (·.2))) := by
  refine ⟨fun pins s σ H Q I h => ?_⟩
  rw [PpSet.eval_SetComp]
  have fr : ∀ y ∈ scope.names, y.2 = .free → ∃ c, X.env.cells.lookup y.1 = some c := by
    intro y hy e
    rcases ok.free y hy e with k | k
    · exact I.ok.has _ (.inl k)
    · exact I.ok.has _ (.inr k)
  refine wpAny_comprehension_free (use := none) rfl hs (closure_ok fr) ok.kind (fun y hy e => ?_) ?_
  · rw [ok.uniq y hy, e]
  refine thn (hi.run pins s σ H _ I h) fun xv s1 hx => thn hx fun itv s2 h2 => ?_
  obtain ⟨it, fp, tn, J, H2, e, I2, T, st2, f2, q⟩ := h2
  subst e
  refine PpSet.newSet_ok (newEnv_comp ?_)
  generalize hC : s2.heap.objs.size = C
  have Cn : H2 C = none := I2.hok.fresh (Nat.le_of_eq hC)
  obtain ⟨W, ⟨m0, w0⟩, turn⟩ := q C Cn
  let hS : Heap := s2.heap.push { cls := .type "set", dict := none, data := .set #[] 0 (.fresh 0 0 (!X.w.params.followText "set-order")) }
  let s3 : Shared := { s2 with heap := hS }
  let H3 : Hp := upd H2 C (SetO X.w C (fun _ => false) 0)
  have I3 : Inv X pins σ H3 s3 := by
    refine I2.laid (t' := s2.toks) (fun b o z => Heap.get?_push_of_some _ z) (Nat.le_of_eq hC) ?_
    rw [← hC]
    exact setO_new (setR_fresh X.w)
  have ltf : ∀ b ∈ fp, b < s2.heap.objs.size := by
    intro b hb
    obtain ⟨o, z, _⟩ := T.obj _ _ st2 b hb
    exact Heap.lt_size z
  have nC : ∀ b ∈ fp, b ≠ C := fun b hb => by rw [← hC]; exact Nat.ne_of_lt (ltf b hb)
  have f3 : ∀ b ∈ fp, FpOk X pins H3 b ∧ b < s3.heap.objs.size := by
    intro b hb
    refine ⟨⟨?_, (f2 b hb).2⟩, ?_⟩
    · show upd H2 C _ b = none
      rw [upd_ne (nC b hb)]
      exact (f2 b hb).1
    · show b < (s2.heap.push _).objs.size
      rw [Heap.size_push]
      exact Nat.lt_succ_of_lt (ltf b hb)
  have st3 : tn 0 s3.heap := T.keep _ _ _ st2 fun b _ o z => Heap.get?_push_of_some _ z
  have I4 := block_start I3 ok hN f3
  let cl := cellsFrom (s3.heap.objs.size + 1) scope.names (cloFrom X.env.cells scope.names [])
  let ce := compEnvC scope cl s3.heap.objs.size X.env
  let B := X.blk s3 H3 scope ce fp
  have pg : PG B tg g := hg s3 H3 s3.heap.objs.size cl fp
  have pt : PTs B ifs tt := ht s3 H3 s3.heap.objs.size cl fp
  have pe : PE B elt te := he s3 H3 s3.heap.objs.size cl fp
  let s4 : Shared := { s3 with heap := pushCells (s3.heap.push { cls := .type "dict", data := .dict #[] }) scope.names }
  have st4 : tn 0 s4.heap := T.keep _ _ _ st3 fun b _ o z => pushCells_keeps _ _ _ _ (Heap.get?_push_of_some _ z)
  have stat : ∀ {σ' : L2.St} {H' : Hp} {s' : Shared}, Inv B [] σ' H' s' → (∀ b ∈ fp, H' b = none) → ∀ b ∈ fp, FpOk B [] H' b := by
    intro σ' H' s' I' n b hb
    refine ⟨n b hb, (I'.ok.exf b hb).1, I'.ok.exfs b hb, .inl hb, fun x c z => (I'.ok.exf b hb).2 x c z, fun p hp => ?_⟩
    exact absurd (show p ∈ ([] : List (Addr × Obj)) ++ [] from hp) (by simp)
  show codeAny _ _ (.compStart (.SetComp elt [⟨tg, iter, ifs, 0⟩] scope pos) 0 (.ref it) (.ref C) ce) (compPost (model X.prog X.w) X.A X.xe none (EP X pins σ Q) (.ref C) s3.heap.objs.size) s4
  have loop : codeAny (model X.prog X.w) X.A (.compLoop (.SetComp elt [⟨tg, iter, ifs, 0⟩] scope pos) 0 (.ref it) (.ref C) ce) (compPost (model X.prog X.w) X.A X.xe none (EP X pins σ Q) (.ref C) s3.heap.objs.size) s4 := by
    refine PpSet.compLoopS_any (fun n s' => ∃ i H', Inv B [] (wipe σ (own.map (·.2))) H' s' ∧ tn i s'.heap ∧ (∀ b ∈ fp, H' b = none) ∧ W i n H') ?_ m0 ⟨0, H3, I4, st4, fun b hb => (f3 b hb).1.1, w0⟩
    rintro n s5 ⟨i, H5, I5, st5, n5, w5⟩
    rcases turn i n H5 w5 with ⟨stop, qq⟩ | ⟨go, Nx, hNx, step⟩
    · refine thnF (T.done B rfl rfl rfl hc i [] s5 _ H5 (fun _ _ => False) I5 (stat I5 n5) st5 stop) fun r s6 ⟨hr, I6⟩ => ?_
      subst hr
      have I7 : Inv X pins σ H5 s6 := I3.call' (ch := fp) I6.os I6.base I6.hok I6.bare fun b hb => by
        have z := (f3 b hb).1.2
        exact ⟨z.2.2.1, z.1, z.2.2.2.1, z.2.2.2.2⟩
      have nL : H5 s3.heap.objs.size = none := I6.free
      obtain ⟨m, hn, _⟩ := I6.loc
      have f := I3.fpOk (Nat.le_refl s3.heap.objs.size) nL
      refine ⟨m, hn, fun h'' sb => ?_⟩
      refine ⟨.ref C, H5, I7.turned (t' := s6.toks) (fun b o hb z => ?_) f.1 f.2.1 f.2.2.2.1 f.2.2.2.2.1 f.2.2.2.2.2, rfl, qq⟩
      exact (sb.2 b hb).trans z
    · refine thnF (T.item B rfl rfl rfl hc i [] s5 _ H5 (fun _ _ => False) I5 (stat I5 n5) st5 go) fun r s6 ⟨u, hr, h6⟩ => ?_
      subst hr
      refine thnF h6 fun _ s7 ⟨x, H7, I7, r7, y7, st7, n7⟩ => ?_
      have P7 := I7.pinned (stat I7 n7) (T.obj _ _ st7)
      refine thnF (pg.run _ s7 _ H7 x u _ P7 r7 (step x H7 y7)) fun _ s8 ⟨σ8, H8, I8, hw8, q8⟩ => ?_
      refine thnF (pt.run _ s8 σ8 H8 _ I8 q8) fun b s9 ⟨H9, I9, q9⟩ => ?_
      have fin : ∀ {s' : Shared} {H' : Hp}, Inv B ([] ++ pinsAt fp s7.heap) σ8 H' s' → Nx H' → ∃ m, m < n ∧ ∃ i H', Inv B [] (wipe σ (own.map (·.2))) H' s' ∧ tn i s'.heap ∧ (∀ b ∈ fp, H' b = none) ∧ W i m H' := by
        intro s' H' I' nx
        obtain ⟨m', hm, w'⟩ := hNx H' nx
        have pin : ∀ b ∈ fp, ∀ o, s7.heap.get? b = some o → s'.heap.get? b = some o ∧ H' b = none := by
          intro b hb o z
          have y := I'.pin (b, o) (List.mem_append_right _ (List.mem_append_right _ (mem_pinsAt hb z)))
          exact ⟨y.1, y.2.1⟩
        refine ⟨m', hm, i + 1, H', (I'.unpinned (pins := [])).weak ?_ (fun j v z => ?_), T.keep _ _ _ st7 fun b hb o z => (pin b hb o z).1, fun b hb => ?_, w'⟩
        · rw [← hw8, wipe_length]
        · rw [← hw8] at z
          exact (wipe_some z).1
        · obtain ⟨o, z, _⟩ := T.obj _ _ st7 b hb
          exact (pin b hb o z).2
      cases b with
      | false =>
        simp only [Bool.false_eq_true, if_false] at q9 ⊢
        exact fin I9 q9
      | true =>
        simp only [if_true] at q9 ⊢
        refine thnF (pe.run _ s9 σ8 H9 _ I9 q9) fun z s10 ⟨yv, H10, I10, r10, k, S0, n0, ey, hD10, hz10, nx⟩ => ?_
        subst ey
        refine thnF (mt_sadd (X := B.wish fun _ _ => False) _ s10 σ8 H10 (.ref C) [.int k] (.ref C) [z] (fun _ H' => Nx H') (I10.wish _) rfl (.cons r10 .nil) ⟨C, k, S0, n0, rfl, rfl, hD10, hz10, nx⟩) fun _ s11 ⟨_, H11, I11, _, n11⟩ => ?_
        exact fin I11.unwish n11
  exact PpSet.codeAny_compStart_set loop (T.self X.A 0 _ _ _ st4 loop)
end
end DL
/-! DL13: sets of ints over data. -/
namespace DL
open PySem PySem.Spec PyProof.Rows L2
def addU (xs : List Int) (k : Int) : List Int := if k ∈ xs then xs else xs ++ [k]
theorem mem_addU {xs : List Int} {j k : Int} : j ∈ addU xs k ↔ j ∈ xs ∨ j = k := by
  unfold addU
  split
  · rename_i h
    constructor
    · exact .inl
    · rintro (z | rfl)
      · exact z
      · exact h
  · simp
instance {w a S n} : NT (L2.SetO w a S n) := ⟨fun _ z => by have z2 : HO.ext _ = HO.tbl _ := z; cases z2⟩
theorem mul_set {w : World} {p : Addr} {S : Int → Bool} {n : Nat} : MuL (some (SetO w p S n)) := fun c q e => by
  have e2 : (fun h => SetR w h p S n) = fun h : Heap => ∃ (oc : Obj) (vs : Array Value) (t : Tok), h.get? c = some oc ∧ oc.data = .fields vs ∧ vs[1]? = some (.str q t) := by
    injection e
  obtain ⟨h, e1, k⟩ := heap_all { cls := .none, data := .fields #[.none, .str q 0] } rfl (c + 1)
  have z : SetR w h p S n := by
    rw [show SetR w h p S n = (fun h => SetR w h p S n) h from rfl, e2]
    exact ⟨_, _, 0, k c (Nat.lt_succ_self c), rfl, rfl⟩
  obtain ⟨o, es, ep, t, ho, _, hd, _⟩ := z
  have hl : p < c + 1 := by rw [← e1]; exact Heap.lt_size ho
  rw [k p hl] at ho
  cases ho
  cases hd
abbrev setOf (w : World) (p : Addr) (xs : List Int) : HO := SetO w p (fun k => decide (k ∈ xs)) xs.length
theorem setOf_add {w : World} {p : Addr} {xs : List Int} {k : Int} : SetO w p (fun j => decide (j ∈ xs) || decide (j = k)) (if decide (k ∈ xs) = true then xs.length else xs.length + 1) = setOf w p (addU xs k) := by
  have e1 : (fun j => decide (j ∈ xs) || decide (j = k)) = fun j => decide (j ∈ addU xs k) := by
    funext j
    rw [Bool.eq_iff_iff]
    simp [mem_addU]
  have e2 : (if decide (k ∈ xs) = true then xs.length else xs.length + 1) = (addU xs k).length := by
    unfold addU
    by_cases h : k ∈ xs
    · simp [h]
    · simp [h]
  show SetO w p _ _ = SetO w p _ _
  rw [e1, e2]
abbrev TSt := G → (List Int → G → Prop) → Prop
def liftSt (K : PySem.W.Frag) (w : World) (t : TSt) : TE := fun σ H Q => ∃ Γ, RG K H σ Γ ∧ t Γ fun xs Γ' => ∀ p H', Aft K H Γ H' σ Γ' → H' p = some (setOf w p xs) → ¬ own Γ' p → (own Γ p ∨ H p = none) → Q (.ref p) H'
structure PSt (X : Cx) (e : Expr) (t : TSt) : Prop where
  run : PE X e (liftSt X.K X.w t)
  mono : ∀ Γ (Q Q' : List Int → G → Prop), (∀ xs Γ', Q xs Γ' → Q' xs Γ') → t Γ Q → t Γ Q'
structure ScR (ds : List D) (lk : Lk) (Γ1 : G) (tg : TGD) (tt : TB) (te : TD) (vs : List Nat) (Q : List Int → G → Prop) : Prop where
  le : ds.length ≤ 1000
  out : ∃ inv : List D → List D → List Int → G → Prop, inv [] ds [] (wipeD Γ1 vs) ∧
    (∀ done rest acc Γ, done ++ rest = ds → inv done rest acc Γ → lkOk lk Γ) ∧
    (∀ done d rest acc Γ, done ++ d :: rest = ds → inv done (d :: rest) acc Γ → tg d Γ fun Γ2 => tt Γ2 fun b Γ3 => Br b (te Γ3 fun r Γ4 => ∃ k, r = .fz (.int k) ∧ inv (done ++ [d]) rest (addU acc k) (wipeD Γ4 vs)) (inv (done ++ [d]) rest acc (wipeD Γ3 vs))) ∧
    ∀ acc Γ, inv ds [] acc Γ → Q acc (unwipe Γ Γ1 vs)
def tstSc (ti : TID) (tg : TGD) (tt : TB) (te : TD) (vs : List Nat) : TSt := fun Γ Q => ti Γ fun ds lk Γ1 => MonoC tg tt te → ScR ds lk Γ1 tg tt te vs Q
theorem addU_len {xs : List Int} {k : Int} : (addU xs k).length ≤ xs.length + 1 := by
  unfold addU
  split
  · exact Nat.le_succ _
  · simp
theorem scan_ok {n : Nat} (h : n ≤ 1000) : n + 1 < scanBound := Nat.lt_of_le_of_lt (Nat.add_le_add_right h 1) (by decide)
theorem tstSc_ok {K : PySem.W.Frag} {w : World} {ti : TID} {tgd : TGD} {tt : TB} {te : TD} {vs : List Nat} (mi : MonoI ti) (mg : ∀ d Γ (Q Q' : G → Prop), (∀ Γ', Q Γ' → Q' Γ') → tgd d Γ Q → tgd d Γ Q') (mt : MonoB tt) (me : Mono te)
    {σ : Sl} {H : Hp} {Q : VK} (q : liftSt K w (tstSc ti tgd tt te vs) σ H Q) :
    tScI w (liftI K ti) (fun v σ H Q => ∃ Γ d, RG K H σ Γ ∧ Rep K H d v ∧ tgd d Γ fun Γ' => ∀ σ', Aft K H Γ H σ' Γ' → wipe σ' vs = wipe σ vs → Q σ' H) (liftB K tt) (lift K te) vs σ H Q := by
  obtain ⟨Γ, g0, q⟩ := q
  refine ⟨Γ, g0, mi _ _ _ (fun ds lk Γ1 q J H1 St a1 src stb l hl => ?_) q⟩
  have h1000 := (q ⟨mg, mt, me⟩).le
  obtain ⟨inv, i0, il, turn, last⟩ := (q ⟨mg, mt, me⟩).out
  have g1 := a1.rg
  have gw := rg_wipe (vs := vs) g1
  have b0 : Aft K H1 (wipeD Γ1 vs) (upd H1 l (setOf w l [])) (wipe σ vs) (wipeD Γ1 vs) := Aft.same gw (same_upd hl)
  have e0 : SetO w l (fun _ => false) 0 = setOf w l [] := by
    show SetO w l _ _ = SetO w l _ _
    congr 1
  refine ⟨fun i m H' => ∃ done rest acc Γ', done ++ rest = ds ∧ i = done.length ∧ m = rest.length ∧ acc.length ≤ done.length ∧ Aft K H1 (wipeD Γ1 vs) H' (wipe σ vs) Γ' ∧ H' l = some (setOf w l acc) ∧ ¬ own Γ' l ∧ inv done rest acc Γ',
    ⟨ds.length, [], ds, [], wipeD Γ1 vs, rfl, rfl, rfl, Nat.le_refl _, by rw [e0]; exact b0, by rw [upd_same, e0], fun z => gw.there z hl, i0⟩, ?_⟩
  rintro i m H2 ⟨done, rest, acc, Γ2, e, rfl, rfl, hac, a2, el, nl, i2⟩
  have st2 : St H2 := stb H2 _ Γ2 (a2.imm gw) a2.rg (il done rest acc Γ2 e i2)
  cases rest with
  | nil =>
    rw [List.append_nil] at e
    subst e
    obtain ⟨a3, ow3⟩ := aft_unwipe g1 a2
    refine .inl ⟨src.stop H2 st2, last acc Γ2 i2 l H2 (a1.trans g0 a3) el (fun z => ?_) (a1.fresh (.inr hl))⟩
    rcases ow3 l z with z | z
    · exact nl z
    · exact g1.there z hl
  | cons d rest =>
    have ed : ds[done.length]? = some d := by
      rw [← e, List.getElem?_append_right (Nat.le_refl _), Nat.sub_self]
      rfl
    have hlt : done.length < ds.length := by rw [← e, List.length_append, List.length_cons]; omega
    refine .inr ⟨src.go _ H2 st2 hlt, fun H' => ∃ acc' Γ', acc'.length ≤ (done ++ [d]).length ∧ Aft K H1 (wipeD Γ1 vs) H' (wipe σ vs) Γ' ∧ H' l = some (setOf w l acc') ∧ ¬ own Γ' l ∧ inv (done ++ [d]) rest acc' Γ', fun H' ⟨acc', Γ', z1, z2, z3, z5, z6⟩ => ⟨rest.length, by simp, done ++ [d], rest, acc', Γ', by rw [← e]; simp, by simp, rfl, z1, z2, z3, z5, z6⟩, fun x H3 y => ?_⟩
    obtain ⟨sm, rx⟩ := src.yld _ d H2 x H3 st2 ed y
    have a3 := Aft.same a2.rg sm
    have a13 := a2.trans gw a3
    have keepl : ∀ {H H' : Hp} {σ' σ'' : Sl} {Γ Γ' : G} {us : HO} [NT us], RG K H σ'' Γ → Aft K H Γ H' σ' Γ' → H l = some us → ¬ own Γ l → H' l = some us ∧ ¬ own Γ' l := fun {H H' σ' σ'' Γ Γ' us} _ g a e n => by
      refine ⟨a.keep _ _ e n, fun z => ?_⟩
      rcases a.sh l z with z | z
      · exact n z
      · rw [e] at z; cases z
    refine ⟨Γ2, d, a3.rg, rx, mg _ _ _ _ (fun Γ4 q σ4 a4 hw => ?_) (turn done d rest acc Γ2 e i2)⟩
    refine ⟨hw.trans (wipe_wipe σ vs), Γ4, a4.rg, mt _ _ _ (fun b Γ5 q H5 a5 => ?_) q⟩
    obtain ⟨l3, n3⟩ := keepl a2.rg a3 el nl
    obtain ⟨l4, n4⟩ := keepl a3.rg a4 l3 n3
    obtain ⟨l5, n5⟩ := keepl a4.rg a5 l4 n4
    have wiped : ∀ {H' : Hp} {Γ' : G}, Aft K H1 (wipeD Γ1 vs) H' σ4 Γ' → Aft K H1 (wipeD Γ1 vs) H' (wipe σ vs) (wipeD Γ' vs) := fun {H' Γ'} a => by
      refine ⟨a.keep, ?_, fun c z => a.sh c (own_wipe z), a.im⟩
      have := rg_wipe (vs := vs) a.rg
      rw [hw, wipe_wipe] at this
      exact this
    have a15 := (a13.trans gw a4).trans gw a5
    rw [br_iff] at q
    split at q
    · rename_i eb
      rw [if_pos eb]
      refine ⟨Γ5, a5.rg, me _ _ _ (fun r Γ6 q v H6 a6 r6 => ?_) q⟩
      obtain ⟨k, rfl, i6⟩ := q
      obtain ⟨l6, n6⟩ := keepl a5.rg a6 l5 n5
      have mu : MuL (H6 l) := by rw [l6]; exact mul_set
      have im7 : Imm H6 (upd H6 l (setOf w l (addU acc k))) := Imm.upd (.inr mu)
      have hlen : acc.length < ds.length := Nat.lt_of_le_of_lt hac hlt
      refine ⟨k, _, _, r6, l6, scan_ok (by omega), ?_⟩
      rw [setOf_add]
      refine ⟨addU acc k, wipeD Γ6 vs, ?_, ?_, upd_same, fun z => n6 (own_wipe z), i6⟩
      · rw [List.length_append]
        exact Nat.le_trans addU_len (Nat.add_le_add_right hac 1)
      · have a16 := wiped (a15.trans gw a6)
        refine ⟨fun c u z1 z2 => ?_, ?_, a16.sh, a16.im.trans im7⟩
        · have nc : c ≠ l := fun z => by rw [z, hl] at z1; cases z1
          rw [upd_ne nc]
          intro _
          exact a16.keep c u z1 z2
        · have g6 := a16.rg
          refine ⟨g6.len, fun j dd z => ?_, fun j p o z => ?_, g6.raw, g6.one, g6.tbm im7⟩
          · obtain ⟨w, w1, w2⟩ := g6.fz _ _ z
            exact ⟨w, w1, w2.imm im7⟩
          · obtain ⟨w1, w2⟩ := g6.ow _ _ _ z
            exact ⟨w1, w2.keep (fun a ha u => keep_upd a u fun y => n6 (by rw [← y]; exact own_wipe (own_mk z ha))) im7⟩
    · rename_i eb
      rw [if_neg eb]
      refine ⟨acc, wipeD Γ5 vs, ?_, wiped a15, l5, fun z => n5 (own_wipe z), q⟩
      rw [List.length_append]
      exact Nat.le_succ_of_le hac
section
variable {X : Cx} {tg iter elt : Expr} {pos : Pos} {ti : TID} {tgd : TGD} {tt : TB} {te : TD} {ifs : List Expr} {scope : Scope}
theorem pst_sc (own : List (Str × Nat)) (hc : X.calm = true) (hN : X.N.Nodup) (hi : PID X tg iter ti) (ok : BlkOk X.N X.env.scope scope own) (hg : ∀ (s : Shared) (H : Hp) (C : Addr) (cl : List (Str × Addr)) (fp : List Addr), PGC (X.blk s H scope (compEnvC scope cl C X.env) fp) tg (own.map (·.2)) tgd)
    (ht : ∀ (s : Shared) (H : Hp) (C : Addr) (cl : List (Str × Addr)) (fp : List Addr), PBs (X.blk s H scope (compEnvC scope cl C X.env) fp) ifs tt) (he : ∀ (s : Shared) (H : Hp) (C : Addr) (cl : List (Str × Addr)) (fp : List Addr), PD (X.blk s H scope (compEnvC scope cl C X.env) fp) elt te)
    (hs : ∀ x, foldedSetIterable iter X.env x = pure x := by intro _; rfl) : PSt X (.SetComp elt [⟨tg, iter, ifs, 0⟩] scope pos) (tstSc ti tgd tt te (own.map (·.2))) := by
  have h0 := hg X.s_0 X.H_0 0 [] []
  have h1 := ht X.s_0 X.H_0 0 [] []
  have h2 := he X.s_0 X.H_0 0 [] []
  refine ⟨PE.imp (pe_scI hc hN hi.run ok (fun s H C cl fp => (hg s H C cl fp).run) (fun s H C cl fp => (ht s H C cl fp).run) (fun s H C cl fp => (he s H C cl fp).run) hs) fun σ H Q q => tstSc_ok hi.mono h0.mono h1.mono h2.mono q, ?_⟩
  exact fun Γ Q Q' hq => hi.mono _ _ _ fun ds lk Γ1 q mc => let ⟨inv, i0, il, turn, last⟩ := (q mc).out; ⟨(q mc).le, inv, i0, il, turn, fun acc Γ2 i2 => hq _ _ (last acc Γ2 i2)⟩
def tdSortSt (t : TSt) : TD := fun Γ Q => t Γ fun xs Γ' => xs.length < 64 ∧ ∀ ns : List Int, ns.Pairwise (· < ·) → (∀ k, k ∈ ns ↔ k ∈ xs) → ∀ p, Q (.ow p (.lst (ns.map .int))) Γ'
theorem pd_sortSt {e : Expr} {t : TSt} {p : Pos} (hc : X.calm = true) (hg : Gl X "sorted") (hm : X.mg "sorted" = none) (he : PSt X e t) (hv : bootBuiltins "sorted" = some (.builtin "sorted") := by decide +kernel)
    (na : starEach [e] X.env = (false, eval e X.env) :: starEach [] X.env := by rfl) (hpl : (backTo pos (starEach [] X.env)).any (·.1) = false := by rfl) : PD X (.Call (.Name "sorted" p) [e] [] pos) (tdSortSt t) := by
  refine ⟨PE.imp (pe_callB (cr_sortedSet hc) hg hm hv (pa_cons he.run pa_nil na) (by decide) (by decide) na hpl) fun σ H Q ⟨Γ, g, q⟩ => ⟨Γ, g, he.mono _ _ _ (fun xs Γ' q p H' a ep np fp => ?_) q⟩, fun Γ Q Q' h => he.mono _ _ _ fun xs Γ' q => ⟨q.1, fun ns z1 z2 p => h _ _ (q.2 ns z1 z2 p)⟩⟩
  refine ⟨p, _, _, rfl, ep, q.1, fun ns p' z1 z2 z3 hn => ?_⟩
  have sm : Same H' (upd H' p' (.lst (ns.map V.int))) := same_upd hn
  exact q.2 ns z1 (fun k => by rw [z2 k]; simp) p' _ _ (a.trans g (Aft.same a.rg sm)) ⟨rfl, ⟨_, upd_same, Reps.of_ints ns⟩, fp1 rfl fun z => a.rg.there z hn, fp1 rfl (a.fresh (.inr hn))⟩
end
end DL
/-! DL14: short words: constants of the module, built-ins, defs; freezing behind a statement. -/
namespace DL
open PySem PySem.Spec PyProof.Rows L2
/-- the built-in names stand for the built-ins -/
structure Bl (mg : Str → Option Value) : Prop where
  abs : mg "abs" = none
  bool : mg "bool" = none
  dict : mg "dict" = none
  enumerate : mg "enumerate" = none
  int : mg "int" = none
  isinstance : mg "isinstance" = none
  len : mg "len" = none
  list : mg "list" = none
  max : mg "max" = none
  min : mg "min" = none
  range : mg "range" = none
  sorted : mg "sorted" = none
  str : mg "str" = none
  sum : mg "sum" = none
  tuple : mg "tuple" = none
theorem bt_abs : bootBuiltins "abs" = some (.builtin "abs") := by decide +kernel
theorem bt_len : bootBuiltins "len" = some (.builtin "len") := by decide +kernel
theorem bt_max : bootBuiltins "max" = some (.builtin "max") := by decide +kernel
theorem bt_min : bootBuiltins "min" = some (.builtin "min") := by decide +kernel
theorem bt_sorted : bootBuiltins "sorted" = some (.builtin "sorted") := by decide +kernel
theorem bt_sum : bootBuiltins "sum" = some (.builtin "sum") := by decide +kernel
theorem bt_int : bootBuiltins "int" = some (.type "int") := by decide +kernel
theorem bt_bool : bootBuiltins "bool" = some (.type "bool") := by decide +kernel
theorem bt_str : bootBuiltins "str" = some (.type "str") := by decide +kernel
theorem bt_dict : bootBuiltins "dict" = some (.type "dict") := by decide +kernel
theorem bt_list : bootBuiltins "list" = some (.type "list") := by decide +kernel
theorem bt_tuple : bootBuiltins "tuple" = some (.type "tuple") := by decide +kernel
section
variable {X : Cx} {pos : Pos}
theorem pd_gint {x : Str} {i : Int} (h : ∃ t, X.mg x = some (.int i t)) (hg : Gl X x := by rfl) (hd : (x == ("__debug__" : Str)) = false := by decide) : PD X (.Name x pos) (tdC (.int i)) := by
  obtain ⟨t, h⟩ := h
  exact pd_glob hg h (v := .int i) ⟨t, rfl⟩ (fun _ => rfl) hd
theorem pd_gstr {x z : Str} (h : ∃ t, X.mg x = some (.str z t)) (hz : PyData.strOk z = true := by decide +kernel) (hg : Gl X x := by rfl) (hd : (x == ("__debug__" : Str)) = false := by decide) : PD X (.Name x pos) (tdC (.str z)) := by
  obtain ⟨t, h⟩ := h
  exact pd_glob hg h (v := .str z) ⟨t, rfl⟩ (fun _ => ⟨rfl, hz⟩) hd
inductive Ty
  | bool
  | int
  | str
  | list
  | tuple
  | dict
def Ty.nm : Ty → String
  | .bool => "bool"
  | .int => "int"
  | .str => "str"
  | .list => "list"
  | .tuple => "tuple"
  | .dict => "dict"
def Ty.has : Ty → D → Bool
  | .bool, .bool _ => true
  | .int, .bool _ => true
  | .int, .int _ => true
  | .str, .str _ => true
  | .list, .list _ => true
  | .tuple, .tuple _ => true
  | .dict, .dict _ => true
  | _, _ => false
inductive Tg
  | n
  | b
  | i
  | s
  | l
  | t
  | d
def tgOf : D → Tg
  | .none => .n
  | .bool _ => .b
  | .int _ => .i
  | .str _ => .s
  | .list _ => .l
  | .tuple _ => .t
  | .dict _ => .d
def Tg.nm : Tg → String
  | .n => "NoneType"
  | .b => "bool"
  | .i => "int"
  | .s => "str"
  | .l => "list"
  | .t => "tuple"
  | .d => "dict"
def Ty.hasT : Ty → Tg → Bool
  | .bool, .b => true
  | .int, .b => true
  | .int, .i => true
  | .str, .s => true
  | .list, .l => true
  | .tuple, .t => true
  | .dict, .d => true
  | _, _ => false
theorem Ty.kit (t : Ty) (g : Tg) : kitB g.nm t.nm = some (t.hasT g) := by cases t <;> cases g <;> decide +kernel
theorem Ty.has_ok (t : Ty) (d : D) : kitB (tyName d) t.nm = some (t.has d) := by
  have e1 : tyName d = (tgOf d).nm := by cases d <;> rfl
  have e2 : t.has d = t.hasT (tgOf d) := by cases t <;> cases d <;> rfl
  rw [e1, e2]
  exact t.kit _
def tdIs (T : Ty) (ta : TD) : TD := fun Γ Q => ta Γ fun r Γ' => dat Γ' r fun d => notDict d ∧ Q (.fz (.bool (T.has d))) Γ'
theorem pd_is {a : Expr} {ta : TD} {p p2 : Pos} {x : Str} (T : Ty) (hg : Gl X "isinstance") (hm : X.mg "isinstance" = none) (hgT : Gl X x) (hmT : X.mg x = none) (hvT : bootBuiltins x = some (.type T.nm)) (ha : PD X a ta)
    (hnT : x ≠ "__name__" := by decide) (hdT : (x == ("__debug__" : Str)) = false := by decide) (hv : bootBuiltins "isinstance" = some (.builtin "isinstance") := by decide +kernel)
    (na : starEach [a, .Name x p2] X.env = (false, eval a X.env) :: starEach [.Name x p2] X.env := by rfl) (nb : starEach [Expr.Name x p2] X.env = (false, eval (.Name x p2) X.env) :: starEach [] X.env := by rfl)
    (hpl : (backTo pos (starEach [Expr.Name x p2] X.env)).any (·.1) = false := by rfl) : PD X (.Call (.Name "isinstance" p) [a, .Name x p2] [] pos) (tdIs T ta) := by
  have h := pd_isi (T := T.nm) (pos := pos) (p := p) hg hm hgT hmT hvT ha hnT hdT hv na nb hpl
  have e : tdIsi T.nm ta = tdIs T ta := by
    funext Γ Q
    unfold tdIsi tdIs
    congr 1
    funext r Γ'
    congr 1
    funext d
    apply propext
    rw [Ty.has_ok]
    constructor
    · rintro ⟨n, k, e, q⟩
      cases e
      exact ⟨n, q⟩
    · exact fun q => ⟨q.1, _, rfl, q.2⟩
  rw [← e]
  exact h
/-- is True, is not False, .. of words -/
def gIsB (neg : Bool) : G2 := fun d e k => match d, e with
  | .bool b, .bool c => k (.dat (.bool (if neg then !decide (b = c) else decide (b = c))))
  | _, _ => False
theorem bool_beq (b c : Bool) : (Value.bool b == Value.bool c) = decide (b = c) := by cases b <;> cases c <;> decide +kernel
theorem op_isB : OpR X (compareOp .Is) (fun x y H Q => ∃ b c : Bool, x = .bl b ∧ y = .bl c ∧ Q (.bl (decide (b = c))) H) := by
  intro pins s σ H x y v u Q I rx ry h
  obtain ⟨b, c, rfl, rfl, q⟩ := h
  cases rx
  cases ry
  exact wpAny_is_plain rfl ⟨.bl _, H, I, by rw [bool_beq]; rfl, q⟩
theorem op_isNotB : OpR X (compareOp .IsNot) (fun x y H Q => ∃ b c : Bool, x = .bl b ∧ y = .bl c ∧ Q (.bl (!decide (b = c))) H) := by
  intro pins s σ H x y v u Q I rx ry h
  obtain ⟨b, c, rfl, rfl, q⟩ := h
  cases rx
  cases ry
  exact wpAny_isNot_plain rfl ⟨.bl _, H, I, by rw [bool_beq]; rfl, q⟩
theorem gIsB_mono {neg : Bool} : ∀ d e (k k' : R → Prop), (∀ z, k z → k' z) → gIsB neg d e k → gIsB neg d e k' := fun d e k k' h q => by
  unfold gIsB at q ⊢
  split at q
  · exact h _ q
  · exact q
theorem od_isB : OpD X (compareOp .Is) (gIsB false) := by
  refine ⟨⟨_, op_isB, fun H d e v u Q nd ne q => ?_⟩, gIsB_mono⟩
  unfold gIsB at q
  split at q
  · exact ⟨_, _, nd.bool, ne.bool, q _ H (same_refl H) rfl⟩
  · exact q.elim
theorem od_isNotB : OpD X (compareOp .IsNot) (gIsB true) := by
  refine ⟨⟨_, op_isNotB, fun H d e v u Q nd ne q => ?_⟩, gIsB_mono⟩
  unfold gIsB at q
  split at q
  · exact ⟨_, _, nd.bool, ne.bool, q _ H (same_refl H) rfl⟩
  · exact q.elim
/-- a def of the text by its name -/
structure DefOk (P : Program) (w : World) (K : PySem.W.Frag) (mg : Str → Option Value) (base : Heap) (k : Nat) (x : Str) (ps : List Str) (n : Nat) (sp : SpD) : Prop where
  ok : ∃ f fd, FnOk P w K mg base CX0 k f fd ps (liftSp K n sp) ∧ mg x = some (.ref f) ∧ PySem.W.keepIn K (.ref f) = true ∧ L2.Binds K fd ps []
  ms : MonoSp sp
theorem pd_def {k n j : Nat} {ps : List Str} {sp : SpD} {x : Str} {p : Pos} {e : Expr} {es : List Expr} {t : TAD} (F : DefOk X.prog X.w X.K X.mg X.base k x ps n sp) (hr : Room j X.A) (ha : PAD X (e :: es) t) (hj : k ≤ j := by first | decide | omega) (hg : Gl X x := by rfl) (hn : (e :: es).length + 0 = n := by rfl)
    (hdb : (x == ("__debug__" : Str)) = false := by decide) (he : starEach (e :: es) X.env = (false, eval e X.env) :: starEach es X.env := by rfl) (hpl : (backTo pos (starEach es X.env)).any (·.1) = false := by rfl) : PD X (.Call (.Name x p) (e :: es) [] pos) (tdCallD sp [] t) := by
  obtain ⟨f, fd, h1, h2, h3, h4⟩ := F.ok
  exact pd_callD (dvs := []) (dD := []) h1 F.ms (hr.mono hj) hg h2 h3 h4 .nil (fun _ => rfl) pass0 ha hn hdb he hpl
/-- the list of the slot i frozen behind a statement -/
def frzS (i : Nat) (Γ : G) : G := match Γ[i]? with
  | some (.ow _ (.lst ds)) => Γ.set i (.fz (.list ds))
  | _ => Γ
def tsFz (i : Nat) (t : TSD) : TSD := fun E Γ => t { E with nx := fun Γ' => E.nx (frzS i Γ') } Γ
theorem pd_sfz (i : Nat) {st : Stmt} {t : TSD} (h : PDS X st t) : PDS X st (tsFz i t) := by
  refine ⟨fun W tk => ⟨fun pins s σ H E I ⟨Γ, g, q⟩ => ?_⟩, fun E E' Γ hl => h.mono _ _ _ ⟨fun Γ' z => hl.nx _ z, hl.rt, hl.bk, hl.ct, hl.xt⟩⟩
  refine thn ((h.run W tk).run pins s σ H { E with nx := fun σ' H' => ∃ Γ', Aft X.K H Γ H' σ' Γ' ∧ ∀ H2, Aft X.K H Γ H2 σ' (frzS i Γ') → E.nx σ' H2 } I ⟨Γ, g, h.mono _ _ _ ?_ q⟩) fun f s' r => ?_
  · exact ⟨fun Γ' z σ' H' a => ⟨Γ', a, fun H2 a2 => z σ' H2 a2⟩, fun r Γ' z => z, fun Γ' z => z, fun Γ' z => z, fun x Γ' z => z⟩
  · cases f with
    | next =>
      obtain ⟨σ', H', I', Γ', a, z⟩ := r
      unfold frzS at z
      split at z
      · rename_i p ds e
        obtain ⟨_, vs, w2, rp⟩ := a.rg.ow _ _ _ e
        obtain ⟨od, I2⟩ := I'.lock w2 Mut.lst
        have im : Imm H' (upd H' p (.frz od (.lst vs))) := imm_frz (by rw [w2]; trivial)
        have rl : Rep X.K (upd H' p (.frz od (.lst vs))) (.list ds) (.ref p) := ⟨p, vs, rfl, .inl ⟨od, upd_same⟩, rp.imm im⟩
        obtain ⟨g1, n1⟩ := rg_drop a.rg (sv := .fz (.list ds)) e im keep_upd (fun _ _ z => by cases z) (fun d z => by cases z; exact rl) (fun _ z => by cases z)
        refine ⟨σ', _, I2, z _ ⟨fun c u z1 z2 => ?_, g1, fun c z => a.sh c (n1 c z).1, a.im.trans im⟩⟩
        have ne : c ≠ p := fun y => by
          subst y
          rcases a.sh c (own_p e) with f | f
          · exact z2 f
          · rw [f] at z1; cases z1
        rw [upd_ne ne]
        intro _
        exact a.keep _ _ z1 z2
      · exact ⟨σ', H', I', z H' a⟩
    | ret v => exact r
    | brk => exact r
    | cont => exact r
end
/-- what a reading is: evaluated at its head -/
theorem hu64 {A : Around} {k : Nat} (hr : Room k A) : A.units + 64 < cLine := by
  have := hr.un
  omega
end DL
/-! DL15: forms of readings that one uses: pure comprehensions, loops by the index; facts about data. -/
namespace DL
open PySem PySem.Spec PyProof.Rows L2
abbrev tI (xs : List Int) : D := .tuple (xs.map .int)
abbrev lI (xs : List Int) : D := .list (xs.map .int)
section
variable {ds : List D} {lk : Lk} {Γ1 : G} {tg : TGD} {tt : TB} {te : TD} {vs : List Nat} {Q : SV → G → Prop}
theorem LcR.pure (mc : MonoC tg tt te) (p : D → Bool) (f : D → D) (hlk : lkOk lk (wipeD Γ1 vs))
    (h : ∀ d, d ∈ ds → tg d (wipeD Γ1 vs) fun Γ2 => tt Γ2 fun b Γ3 => b = p d ∧ (b = true → te Γ3 fun r Γ4 => r = .fz (f d) ∧ wipeD Γ4 vs = wipeD Γ1 vs) ∧ (b = false → wipeD Γ3 vs = wipeD Γ1 vs))
    (q : ∀ a, Q (.ow a (.lst ((ds.filter p).map f))) (unwipe (wipeD Γ1 vs) Γ1 vs)) : LcR ds lk Γ1 tg tt te vs Q := by
  refine ⟨fun done rest acc Γ => acc = (done.filter p).map f ∧ Γ = wipeD Γ1 vs, ⟨rfl, rfl⟩, fun _ _ _ Γ _ ⟨_, e⟩ => by rw [e]; exact hlk, fun done d rest acc Γ e ⟨ea, eΓ⟩ => ?_, fun acc Γ ⟨ea, eΓ⟩ a => by rw [ea, eΓ]; exact q a⟩
  subst eΓ
  have hd : d ∈ ds := by rw [← e]; simp
  refine mc.mg _ _ _ _ (fun Γ2 z => mc.mt _ _ _ (fun b Γ3 z => ?_) z) (h d hd)
  obtain ⟨eb, z1, z2⟩ := z
  cases b with
  | true =>
    rw [br_iff, if_pos rfl]
    refine mc.me _ _ _ (fun r Γ4 z => ?_) (z1 rfl)
    obtain ⟨rfl, e4⟩ := z
    refine ⟨f d, rfl, ?_, e4⟩
    rw [ea, List.filter_append, List.map_append, List.filter_cons, ← eb]
    rfl
  | false =>
    rw [br_iff, if_neg Bool.false_ne_true]
    refine ⟨?_, z2 rfl⟩
    rw [ea, List.filter_append, List.map_append, List.filter_cons, ← eb]
    simp
theorem LcR.ints {xs : List Int} (mc : MonoC tg tt te) (p : Int → Bool) (f : Int → D) (hlk : lkOk lk (wipeD Γ1 vs))
    (h : ∀ x, x ∈ xs → tg (.int x) (wipeD Γ1 vs) fun Γ2 => tt Γ2 fun b Γ3 => b = p x ∧ (b = true → te Γ3 fun r Γ4 => r = .fz (f x) ∧ wipeD Γ4 vs = wipeD Γ1 vs) ∧ (b = false → wipeD Γ3 vs = wipeD Γ1 vs))
    (q : ∀ a, Q (.ow a (.lst ((xs.filter p).map f))) (unwipe (wipeD Γ1 vs) Γ1 vs)) : LcR (xs.map .int) lk Γ1 tg tt te vs Q := by
  let P : D → Bool := fun d => match d with
    | .int x => p x
    | _ => false
  let F : D → D := fun d => match d with
    | .int x => f x
    | _ => .none
  refine LcR.pure mc P F hlk (fun d hd => ?_) (fun a => ?_)
  · obtain ⟨x, hx, rfl⟩ := List.mem_map.mp hd
    exact h x hx
  · have e : ((xs.map PyData.int).filter P).map F = (xs.filter p).map f := by
      rw [List.filter_map, List.map_map]
      rfl
    rw [e]
    exact q a
/-- over signs of a text -/
theorem LcR.signs {z : Str} (mc : MonoC tg tt te) (p : Nat → Bool) (f : Nat → D) (hlk : lkOk lk (wipeD Γ1 vs))
    (h : ∀ c, c ∈ z.cps.toList → tg (.str ⟨#[c]⟩) (wipeD Γ1 vs) fun Γ2 => tt Γ2 fun b Γ3 => b = p c ∧ (b = true → te Γ3 fun r Γ4 => r = .fz (f c) ∧ wipeD Γ4 vs = wipeD Γ1 vs) ∧ (b = false → wipeD Γ3 vs = wipeD Γ1 vs))
    (q : ∀ a, Q (.ow a (.lst ((z.cps.toList.filter p).map f))) (unwipe (wipeD Γ1 vs) Γ1 vs)) : LcR (signsD z) lk Γ1 tg tt te vs Q := by
  let P : D → Bool := fun d => match d with
    | .str x => p (x.cps.getD 0 0)
    | _ => false
  let F : D → D := fun d => match d with
    | .str x => f (x.cps.getD 0 0)
    | _ => .none
  refine LcR.pure mc P F hlk (fun d hd => ?_) (fun a => ?_)
  · obtain ⟨x, hx, rfl⟩ := List.mem_map.mp hd
    exact h x hx
  · have e : ((signsD z).filter P).map F = (z.cps.toList.filter p).map f := by
      unfold signsD
      rw [List.filter_map, List.map_map]
      rfl
    rw [e]
    exact q a
/-- over any list of things -/
theorem LcR.of {α : Type} {enc : α → D} {xs : List α} (mc : MonoC tg tt te) (p : α → Bool) (f : α → D) (hlk : lkOk lk (wipeD Γ1 vs))
    (h : ∀ x, x ∈ xs → tg (enc x) (wipeD Γ1 vs) fun Γ2 => tt Γ2 fun b Γ3 => b = p x ∧ (b = true → te Γ3 fun r Γ4 => r = .fz (f x) ∧ wipeD Γ4 vs = wipeD Γ1 vs) ∧ (b = false → wipeD Γ3 vs = wipeD Γ1 vs))
    (q : ∀ a, Q (.ow a (.lst ((xs.filter p).map f))) (unwipe (wipeD Γ1 vs) Γ1 vs)) : LcR (xs.map enc) lk Γ1 tg tt te vs Q := by
  refine ⟨fun done rest acc Γ => ∃ us ws, us ++ ws = xs ∧ done = us.map enc ∧ rest = ws.map enc ∧ acc = (us.filter p).map f ∧ Γ = wipeD Γ1 vs, ⟨[], xs, rfl, rfl, rfl, rfl, rfl⟩, fun _ _ _ Γ _ ⟨_, _, _, _, _, _, e⟩ => by rw [e]; exact hlk, fun done d rest acc Γ e ⟨us, ws, e1, e2, e3, ea, eΓ⟩ => ?_, fun acc Γ ⟨us, ws, e1, e2, e3, ea, eΓ⟩ a => ?_⟩
  · subst eΓ
    cases ws with
    | nil => simp at e3
    | cons x ws =>
      simp only [List.map_cons, List.cons.injEq] at e3
      obtain ⟨rfl, e3⟩ := e3
      have hx : x ∈ xs := by rw [← e1]; simp
      refine mc.mg _ _ _ _ (fun Γ2 z => mc.mt _ _ _ (fun b Γ3 z => ?_) z) (h x hx)
      obtain ⟨eb, z1, z2⟩ := z
      cases b with
      | true =>
        rw [br_iff, if_pos rfl]
        refine mc.me _ _ _ (fun r Γ4 z => ?_) (z1 rfl)
        obtain ⟨rfl, e4⟩ := z
        refine ⟨f x, rfl, us ++ [x], ws, by rw [← e1]; simp, by rw [e2]; simp, e3, ?_, e4⟩
        rw [ea, List.filter_append, List.map_append, List.filter_cons, ← eb]
        rfl
      | false =>
        rw [br_iff, if_neg Bool.false_ne_true]
        refine ⟨us ++ [x], ws, by rw [← e1]; simp, by rw [e2]; simp, e3, ?_, z2 rfl⟩
        rw [ea, List.filter_append, List.map_append, List.filter_cons, ← eb]
        simp
  · have hw : ws = [] := by simpa using e3.symm
    subst hw
    rw [List.append_nil] at e1
    subst e1
    rw [ea, eΓ]
    exact q a
/-- over ints, by tests that may change what is one's own: some of them come back -/
theorem LcR.sub {xs : List Int} (mc : MonoC tg tt te) (J : G → Prop) (h0 : J (wipeD Γ1 vs)) (hlk : ∀ Γ, J Γ → lkOk lk Γ)
    (h : ∀ x, x ∈ xs → ∀ Γ, J Γ → tg (.int x) Γ fun Γ2 => tt Γ2 fun b Γ3 => (b = true → te Γ3 fun r Γ4 => r = .fz (.int x) ∧ J (wipeD Γ4 vs)) ∧ (b = false → J (wipeD Γ3 vs)))
    (q : ∀ a (ys : List Int) Γ, ys.Sublist xs → J Γ → Q (.ow a (.lst (ys.map .int))) (unwipe Γ Γ1 vs)) : LcR (xs.map .int) lk Γ1 tg tt te vs Q := by
  refine ⟨fun done rest acc Γ => ∃ us ws ys : List Int, us ++ ws = xs ∧ done = us.map .int ∧ rest = ws.map .int ∧ acc = ys.map .int ∧ ys.Sublist us ∧ J Γ, ⟨[], xs, [], rfl, rfl, rfl, rfl, .slnil, h0⟩, fun _ _ _ Γ _ ⟨_, _, _, _, _, _, _, _, e⟩ => hlk Γ e, fun done d rest acc Γ e ⟨us, ws, ys, e1, e2, e3, ea, es, j⟩ => ?_, fun acc Γ ⟨us, ws, ys, e1, e2, e3, ea, es, j⟩ a => ?_⟩
  · cases ws with
    | nil => simp at e3
    | cons x ws =>
      simp only [List.map_cons, List.cons.injEq] at e3
      obtain ⟨rfl, e3⟩ := e3
      have hx : x ∈ xs := by rw [← e1]; simp
      refine mc.mg _ _ _ _ (fun Γ2 z => mc.mt _ _ _ (fun b Γ3 z => ?_) z) (h x hx Γ j)
      obtain ⟨z1, z2⟩ := z
      cases b with
      | true =>
        rw [br_iff, if_pos rfl]
        refine mc.me _ _ _ (fun r Γ4 z => ?_) (z1 rfl)
        obtain ⟨rfl, e4⟩ := z
        refine ⟨_, rfl, us ++ [x], ws, ys ++ [x], by rw [← e1]; simp, by rw [e2]; simp, e3, by rw [ea]; simp, List.Sublist.append es (.refl _), e4⟩
      | false =>
        rw [br_iff, if_neg Bool.false_ne_true]
        refine ⟨us ++ [x], ws, ys, by rw [← e1]; simp, by rw [e2]; simp, e3, ea, es.trans (List.sublist_append_left _ _), z2 rfl⟩
  · have hw : ws = [] := by simpa using e3.symm
    subst hw
    rw [List.append_nil] at e1
    subst e1
    rw [ea]
    exact q a ys Γ es j
end
section
variable {ds : List D} {lk : Lk} {Γ1 : G} {tg : TGD} {tt : TB} {te : TD} {vs : List Nat} {Q : List Int → G → Prop}
/-- a set comprehension over ints that tests and reckons purely -/
theorem ScR.ints {xs : List Int} (mc : MonoC tg tt te) (p : Int → Bool) (f : Int → Int) (hlk : lkOk lk (wipeD Γ1 vs)) (hle : xs.length ≤ 1000)
    (h : ∀ x, x ∈ xs → tg (.int x) (wipeD Γ1 vs) fun Γ2 => tt Γ2 fun b Γ3 => b = p x ∧ (b = true → te Γ3 fun r Γ4 => r = .fz (.int (f x)) ∧ wipeD Γ4 vs = wipeD Γ1 vs) ∧ (b = false → wipeD Γ3 vs = wipeD Γ1 vs))
    (q : ∀ ys : List Int, (∀ k, k ∈ ys ↔ k ∈ (xs.filter p).map f) → ys.length ≤ xs.length → Q ys (unwipe (wipeD Γ1 vs) Γ1 vs)) : ScR (xs.map .int) lk Γ1 tg tt te vs Q := by
  refine ⟨by rw [List.length_map]; exact hle, fun done rest acc Γ => ∃ us ws, us ++ ws = xs ∧ done = us.map .int ∧ rest = ws.map .int ∧ (∀ k, k ∈ acc ↔ k ∈ (us.filter p).map f) ∧ acc.length ≤ us.length ∧ Γ = wipeD Γ1 vs, ⟨[], xs, rfl, rfl, rfl, by simp, Nat.le_refl _, rfl⟩, fun _ _ _ Γ _ ⟨_, _, _, _, _, _, _, e⟩ => by rw [e]; exact hlk, fun done d rest acc Γ e ⟨us, ws, e1, e2, e3, ea, el, eΓ⟩ => ?_, fun acc Γ ⟨us, ws, e1, e2, e3, ea, el, eΓ⟩ => ?_⟩
  · subst eΓ
    cases ws with
    | nil => simp at e3
    | cons x ws =>
      simp only [List.map_cons, List.cons.injEq] at e3
      obtain ⟨rfl, e3⟩ := e3
      have hx : x ∈ xs := by rw [← e1]; simp
      refine mc.mg _ _ _ _ (fun Γ2 z => mc.mt _ _ _ (fun b Γ3 z => ?_) z) (h x hx)
      obtain ⟨eb, z1, z2⟩ := z
      cases b with
      | true =>
        rw [br_iff, if_pos rfl]
        refine mc.me _ _ _ (fun r Γ4 z => ?_) (z1 rfl)
        obtain ⟨rfl, e4⟩ := z
        refine ⟨f x, rfl, us ++ [x], ws, by rw [← e1]; simp, by rw [e2]; simp, e3, fun k => ?_, Nat.le_trans addU_len (by simpa using el), e4⟩
        rw [mem_addU, ea, List.filter_append, List.map_append, List.mem_append, List.filter_cons, ← eb]
        simp
      | false =>
        rw [br_iff, if_neg Bool.false_ne_true]
        refine ⟨us ++ [x], ws, by rw [← e1]; simp, by rw [e2]; simp, e3, fun k => ?_, by rw [List.length_append]; exact Nat.le_succ_of_le el, z2 rfl⟩
        rw [ea, List.filter_append, List.map_append, List.mem_append, List.filter_cons, ← eb]
        simp
  · have hw : ws = [] := by simpa using e3.symm
    subst hw
    rw [List.append_nil] at e1
    subst e1
    rw [eΓ]
    exact q acc ea el
end
section
variable {ds : List D} {lk : Lk} {Γ1 : G} {tg : TGD} {tb : TSD} {E : EndD}
/-- for, by the index -/
theorem ForR.ix (inv : Nat → G → Prop) (h0 : inv 0 Γ1) (hlk : ∀ i Γ, i ≤ ds.length → inv i Γ → lkOk lk Γ)
    (step : ∀ i d Γ, ds[i]? = some d → inv i Γ → tg d Γ fun Γ2 => tb { E with nx := inv (i + 1), ct := inv (i + 1), bk := E.nx } Γ2) (last : ∀ Γ, inv ds.length Γ → E.nx Γ) : ForR E ds lk Γ1 tg tb := by
  refine ⟨fun done rest Γ => inv done.length Γ, h0, fun done rest Γ e i => hlk done.length Γ (by rw [← e, List.length_append]; omega) i, fun done d rest Γ e i => ?_, fun Γ i => last Γ i⟩
  have ed : ds[done.length]? = some d := by
    rw [← e, List.getElem?_append_right (Nat.le_refl _), Nat.sub_self]
    rfl
  have := step done.length d Γ ed i
  simp only [List.length_append, List.length_singleton]
  exact this
/-- over range(a, b) -/
theorem ForR.rg {a b : Int} (inv : Nat → G → Prop) (h0 : inv 0 Γ1)
    (step : ∀ (i : Nat) Γ, i < (b - a).toNat → inv i Γ → tg (.int (a + i)) Γ fun Γ2 => tb { E with nx := inv (i + 1), ct := inv (i + 1), bk := E.nx } Γ2) (last : ∀ Γ, inv (b - a).toNat Γ → E.nx Γ) : ForR E (rgD a b) none Γ1 tg tb := by
  have hl : (rgD a b).length = (b - a).toNat := by unfold rgD; simp
  refine ForR.ix inv h0 (fun _ _ _ _ => trivial) (fun i d Γ e hi => ?_) (fun Γ h => last Γ (by rw [← hl]; exact h))
  have hlt : i < (b - a).toNat := by
    rw [← hl]
    exact (List.getElem?_eq_some_iff.mp e).1
  have ed : d = .int (a + i) := by
    unfold rgD at e
    rw [List.getElem?_map, List.getElem?_range hlt] at e
    exact (Option.some.inj e).symm
  subst ed
  exact step i Γ hlt hi
/-- over range(b) -/
theorem ForR.rg0 {b : Int} (inv : Nat → G → Prop) (h0 : inv 0 Γ1)
    (step : ∀ (i : Nat) Γ, (i : Int) < b → inv i Γ → tg (.int (i : Nat)) Γ fun Γ2 => tb { E with nx := inv (i + 1), ct := inv (i + 1), bk := E.nx } Γ2) (last : ∀ Γ, inv b.toNat Γ → E.nx Γ) : ForR E (rgD 0 b) none Γ1 tg tb := by
  refine ForR.rg inv h0 (fun i Γ hi h => ?_) (fun Γ h => last Γ (by rw [Int.sub_zero] at h; exact h))
  rw [Int.zero_add]
  exact step i Γ (by omega) h
/-- over any list of things -/
theorem ForR.of {α : Type} {enc : α → D} {xs : List α} (inv : List α → List α → G → Prop) (h0 : inv [] xs Γ1) (hlk : ∀ us ws Γ, us ++ ws = xs → inv us ws Γ → lkOk lk Γ)
    (step : ∀ us x ws Γ, us ++ x :: ws = xs → inv us (x :: ws) Γ → tg (enc x) Γ fun Γ2 => tb { E with nx := inv (us ++ [x]) ws, ct := inv (us ++ [x]) ws, bk := E.nx } Γ2) (last : ∀ Γ, inv xs [] Γ → E.nx Γ) (mf : MonoF tg tb) : ForR E (xs.map enc) lk Γ1 tg tb := by
  refine ⟨fun done rest Γ => ∃ us ws, us ++ ws = xs ∧ done = us.map enc ∧ rest = ws.map enc ∧ inv us ws Γ, ⟨[], xs, rfl, rfl, rfl, h0⟩, fun done rest Γ e ⟨us, ws, e1, _, _, i⟩ => hlk us ws Γ e1 i, fun done d rest Γ e ⟨us, ws, e1, e2, e3, i⟩ => ?_, fun Γ ⟨us, ws, e1, e2, e3, i⟩ => ?_⟩
  · cases ws with
    | nil => simp at e3
    | cons x ws =>
      simp only [List.map_cons, List.cons.injEq] at e3
      obtain ⟨rfl, e3⟩ := e3
      have up : ∀ Γ, inv (us ++ [x]) ws Γ → ∃ us' ws', us' ++ ws' = xs ∧ done ++ [enc x] = us'.map enc ∧ rest = ws'.map enc ∧ inv us' ws' Γ := fun Γ z => ⟨us ++ [x], ws, by rw [← e1]; simp, by rw [e2]; simp, e3, z⟩
      refine mf.mg _ _ _ _ (fun Γ2 z => mf.mb _ _ _ ?_ z) (step us x ws Γ e1 i)
      exact ⟨fun Γ z => up Γ z, fun _ _ z => z, fun _ z => z, fun Γ z => up Γ z, fun _ _ z => z⟩
  · have hw : ws = [] := by simpa using e3.symm
    subst hw
    rw [List.append_nil] at e1
    subst e1
    exact last Γ i
end
/-- a cut: what stands behind the first statement is said in words -/
structure CutR (A B : TSD) (E : EndD) (Γ : G) : Prop where
  out : ∃ Inv : G → Prop, A { E with nx := Inv } Γ ∧ ∀ Γ', Inv Γ' → B E Γ'
def tsCut (A B : TSD) : TSD := fun E Γ => CutR A B E Γ
theorem pds_cut {X : Cx} {st : Stmt} {rest : List Stmt} {t u : TSD} (h1 : PDS X st t) (h2 : PDSs X rest u) : PDSs X (st :: rest) (tsCut t u) := by
  have h := pds_cons h1 h2
  refine ⟨fun W tk => PSs.imp (h.run W tk) fun D σ H ⟨Γ, g, q⟩ => ⟨Γ, g, ?_⟩, fun D D' Γ le q => ?_⟩
  · obtain ⟨Inv, q1, q2⟩ := q.out
    exact h1.mono { liftD X.K W Γ H D with nx := Inv } { liftD X.K W Γ H D with nx := u (liftD X.K W Γ H D) } Γ ⟨fun Γ' z => q2 Γ' z, fun _ _ z => z, fun _ z => z, fun _ z => z, fun _ _ z => z⟩ q1
  · obtain ⟨Inv, q1, q2⟩ := q.out
    exact ⟨Inv, h1.mono { D with nx := Inv } { D' with nx := Inv } Γ ⟨fun _ z => z, le.rt, le.bk, le.ct, le.xt⟩ q1, fun Γ' z => h2.mono _ _ _ le (q2 Γ' z)⟩
/-! ### facts about data -/
theorem flat_ints (xs : List Int) : (xs.map PyData.int).all flat = true := by simp [flat]
theorem flat_strs (xs : List Str) : (xs.map PyData.str).all flat = true := by simp [flat]
theorem isIn_ints (x : Int) (xs : List Int) : isIn (.int x) (xs.map .int) = decide (x ∈ xs) := by
  unfold isIn
  rw [List.any_map, Bool.eq_iff_iff]
  simp [PyData.eqv]
theorem isIn_strs (x : Str) (xs : List Str) : isIn (.str x) (xs.map .str) = decide (x ∈ xs) := by
  unfold isIn
  rw [List.any_map, Bool.eq_iff_iff]
  simp [PyData.eqv]
theorem eqv_nil (ds : List D) : PyData.eqv (.list ds) (.list []) = ds.isEmpty := by
  cases ds <;> simp [PyData.eqv, PyData.eqvAll]
theorem eqvAll_ints : ∀ xs ys : List Int, PyData.eqvAll (xs.map .int) (ys.map .int) = decide (xs = ys)
  | [], [] => by simp [PyData.eqvAll]
  | [], _ :: _ => by simp [PyData.eqvAll]
  | _ :: _, [] => by simp [PyData.eqvAll]
  | x :: xs, y :: ys => by
    simp only [List.map_cons, PyData.eqvAll, PyData.eqv, eqvAll_ints xs ys, List.cons.injEq]
    rw [Bool.eq_iff_iff]
    simp
theorem eqv_lI (xs ys : List Int) : PyData.eqv (lI xs) (lI ys) = decide (xs = ys) := by
  show PyData.eqv (.list _) (.list _) = _
  rw [PyData.eqv]
  exact eqvAll_ints xs ys
theorem eqv_tI (xs ys : List Int) : PyData.eqv (tI xs) (tI ys) = decide (xs = ys) := by
  show PyData.eqv (.tuple _) (.tuple _) = _
  rw [PyData.eqv]
  exact eqvAll_ints xs ys
theorem depth_nil : (PyData.list []).depth ≤ 60 := by decide
theorem noDs_map {α : Type} (f : α → D) : ∀ xs : List α, noDs (xs.map f) = xs.all fun x => noD (f x)
  | [] => rfl
  | x :: xs => by rw [List.map_cons, noDs, noDs_map f xs, List.all_cons]
theorem noDs_all : ∀ xs : List D, noDs xs = xs.all noD
  | [] => rfl
  | x :: xs => by rw [noDs, noDs_all xs, List.all_cons]
theorem noDs_app (xs ys : List D) : noDs (xs ++ ys) = (noDs xs && noDs ys) := by rw [noDs_all, noDs_all, noDs_all, List.all_append]
theorem noD_ints (xs : List Int) : noDs (xs.map .int) = true := by rw [noDs_map]; simp [noD]
theorem noD_tI (xs : List Int) : noD (tI xs) = true := noD_ints xs
theorem noD_tIs (xs : List (List Int)) : noDs (xs.map tI) = true := by rw [noDs_map]; simp [noD_tI]
theorem shal_nil {d : D} (h : noD d = true) : shal d (.list []) := ⟨.inr depth_nil, h, rfl⟩
theorem shal_nilT {d : D} (h : noD d = true) : shal d (.tuple []) := ⟨.inr (by decide), h, rfl⟩
theorem shal_int {i : Int} {d : D} (h : noD d = true) : shal (.int i) d := ⟨.inl (by simp [PyData.depth]), rfl, h⟩
theorem shal_bool {i : Bool} {d : D} (h : noD d = true) : shal (.bool i) d := ⟨.inl (by simp [PyData.depth]), rfl, h⟩
theorem shal_str {i : Str} {d : D} (h : noD d = true) : shal (.str i) d := ⟨.inl (by simp [PyData.depth]), rfl, h⟩
theorem eqv_int (i j : Int) : PyData.eqv (.int i) (.int j) = decide (i = j) := by
  rw [PyData.eqv]; rfl
theorem eqv_bool (i j : Bool) : PyData.eqv (.bool i) (.bool j) = decide (i = j) := by
  rw [PyData.eqv]; cases i <;> cases j <;> rfl
theorem eqv_str (i j : Str) : PyData.eqv (.str i) (.str j) = decide (i = j) := by
  rw [PyData.eqv, Bool.eq_iff_iff]; simp
theorem depthAll_ints (xs : List Int) : PyData.depthAll (xs.map .int) = 0 := by
  induction xs with
  | nil => rfl
  | cons x xs ih => simp [PyData.depthAll, PyData.depth, ih]
theorem depth_lI (xs : List Int) : (lI xs).depth ≤ 60 := by simp [PyData.depth, depthAll_ints]
theorem depth_tI (xs : List Int) : (tI xs).depth ≤ 60 := by simp [PyData.depth, depthAll_ints]
theorem isEmpty_filter {α : Type} (p : α → Bool) (xs : List α) : (xs.filter p).isEmpty = xs.all fun x => !p x := by
  induction xs with
  | nil => rfl
  | cons x xs ih =>
    rw [List.filter_cons, List.all_cons, ← ih]
    cases p x <;> simp
theorem cut_to {ds : List D} {i : Nat} : cutD ds none (some (i : Int)) = ds.take i := by
  unfold cutD
  rw [HT.sIx_none, HT.sIx_nat, Nat.sub_zero, List.drop_zero, ← List.take_eq_take_min]
theorem cut_from {ds : List D} {i : Nat} : cutD ds (some (i : Int)) none = ds.drop i := by
  unfold cutD
  rw [HT.sIx_none, HT.sIx_nat]
  rcases Nat.le_total i ds.length with h | h
  · rw [Nat.min_eq_left h]
    exact List.take_of_length_le (by rw [List.length_drop]; exact Nat.le_refl _)
  · rw [Nat.min_eq_right h, List.drop_of_length_le (Nat.le_refl _), List.drop_of_length_le h]
    simp
theorem enum0 {ds : List D} {i : Nat} {z : D} (h : (enumD 0 ds)[i]? = some z) : ∃ d, ds[i]? = some d ∧ z = .tuple [.int (i : Nat), d] := by
  obtain ⟨d, h1, h2⟩ := enumD_at h
  rw [Nat.zero_add] at h2
  exact ⟨d, h1, h2⟩
theorem map_at {α β : Type} {f : α → β} {xs : List α} {i : Nat} {b : β} (h : (xs.map f)[i]? = some b) : ∃ a, xs[i]? = some a ∧ b = f a := by
  rw [List.getElem?_map] at h
  cases e : xs[i]? with
  | none => rw [e] at h; cases h
  | some a => rw [e] at h; exact ⟨a, rfl, (Option.some.inj h).symm⟩
theorem filt_true {α : Type} (xs : List α) : (xs.filter fun _ => true) = xs := List.filter_eq_self.mpr fun _ _ => rfl
theorem isEmpty_map {α β : Type} (f : α → β) (xs : List α) : (xs.map f).isEmpty = xs.isEmpty := by cases xs <;> rfl
/-! ### the law's own argument -/
theorem rep_script {K : PySem.W.Frag} {H : Hp} {a : Addr} {ns : List Int} (hO : Only H) (hS : SqL K H a (ns.map V.int)) : Rep K H (lI ns) (.ref a) := by
  rcases hS with (h | ⟨o, h⟩) | h
  · rcases hO a with z | ⟨o, xs, z⟩
    · rw [h] at z; cases z
    · rw [h] at z; cases z
  · exact ⟨a, _, rfl, .inl ⟨o, h⟩, Reps.of_ints ns⟩
  · exact ⟨a, _, rfl, .inr h, Reps.of_ints ns⟩
theorem rg_one {K : PySem.W.Frag} {H : Hp} {d : D} {v : V} (h : Rep K H d v) (ht : ∀ P, LawTab K P → LamX.TabS H P lamq) : RG K H [some v] [.fz d] := by
  refine ⟨rfl, fun i d' e => ?_, fun i p o e => ?_, fun i v' e => ?_, one_mk fun i j p p' o o' b e _ _ _ => ?_, ht⟩
  · cases i with
    | zero => cases e; exact ⟨v, rfl, h⟩
    | succ i => cases e
  · cases i with
    | zero => cases e
    | succ i => cases e
  · cases i with
    | zero => cases e
    | succ i => cases e
  · cases i with
    | zero => cases e
    | succ i => cases e
/-- a law that comes true of every script -/
theorem law_start {K : PySem.W.Frag} {sp : SpD} {H : Hp} {a : Addr} {ns : List Int} {n : Nat} (h : ∀ (ns : List Int) (Q : SV → G → Prop) (E : XD → G → Prop), ns.length ≤ n → (∀ Γ, Q (.fz (.bool true)) Γ) → sp [.fz (lI ns)] Q E) (hl : ns.length ≤ n) (hO : Only H) (hS : SqL K H a (ns.map V.int)) (ht : ∀ P, LawTab K P → LamX.TabS H P lamq) :
    liftSp K 1 sp [.ref a] H (fun v _ => v = .bl true) fun _ _ _ => False :=
  ⟨rfl, _, rg_one (rep_script hO hS) ht, h ns _ _ hl fun _ _ _ _ rs => rs⟩
/-- nothing is promised -/
def spNever : SpD := fun _ _ _ => False
end DL
/-! DL16: further forms of readings that one uses. -/
namespace DL
open PySem PySem.Spec PyProof.Rows L2
section
variable {lk : Lk} {Γ1 : G} {tg : TGD} {tt : TB} {te : TD} {vs : List Nat} {Q : SV → G → Prop}
/-- a comprehension over any list of things, by an invariant over what is done, what came of it, and the slots -/
theorem LcR.gen {α β : Type} {enc : α → D} {enb : β → D} {xs : List α} (mc : MonoC tg tt te) (J : List α → List β → G → Prop) (h0 : J [] [] (wipeD Γ1 vs)) (hlk : ∀ us bs Γ, J us bs Γ → lkOk lk Γ)
    (step : ∀ us x ws bs Γ, us ++ x :: ws = xs → J us bs Γ → tg (enc x) Γ fun Γ2 => tt Γ2 fun b Γ3 => Br b (te Γ3 fun r Γ4 => ∃ c, r = .fz (enb c) ∧ J (us ++ [x]) (bs ++ [c]) (wipeD Γ4 vs)) (J (us ++ [x]) bs (wipeD Γ3 vs)))
    (last : ∀ bs Γ, J xs bs Γ → ∀ a, Q (.ow a (.lst (bs.map enb))) (unwipe Γ Γ1 vs)) : LcR (xs.map enc) lk Γ1 tg tt te vs Q := by
  refine ⟨fun done rest acc Γ => ∃ us ws bs, us ++ ws = xs ∧ done = us.map enc ∧ rest = ws.map enc ∧ acc = bs.map enb ∧ J us bs Γ, ⟨[], xs, [], rfl, rfl, rfl, rfl, h0⟩, fun _ _ _ Γ _ ⟨us, _, bs, _, _, _, _, j⟩ => hlk us bs Γ j, fun done d rest acc Γ e ⟨us, ws, bs, e1, e2, e3, ea, j⟩ => ?_, fun acc Γ ⟨us, ws, bs, e1, e2, e3, ea, j⟩ a => ?_⟩
  · cases ws with
    | nil => simp at e3
    | cons x ws =>
      simp only [List.map_cons, List.cons.injEq] at e3
      obtain ⟨rfl, e3⟩ := e3
      refine mc.mg _ _ _ _ (fun Γ2 z => mc.mt _ _ _ (fun b Γ3 z => ?_) z) (step us x ws bs Γ e1 j)
      refine ⟨fun hb => ?_, fun hb => ?_⟩
      · refine mc.me _ _ _ (fun r Γ4 z => ?_) (z.yes hb)
        obtain ⟨c, rfl, j4⟩ := z
        exact ⟨_, rfl, us ++ [x], ws, bs ++ [c], by rw [← e1]; simp, by rw [e2]; simp, e3, by rw [ea]; simp, j4⟩
      · exact ⟨us ++ [x], ws, bs, by rw [← e1]; simp, by rw [e2]; simp, e3, ea, z.no hb⟩
  · have hw : ws = [] := by simpa using e3.symm
    subst hw
    rw [List.append_nil] at e1
    subst e1
    rw [ea]
    exact last bs Γ j a
end
end DL
/-! DL17: dicts of one's own whose keys are tuples of ints. -/
namespace DL
open PySem PySem.Spec PyProof.Rows L2
section
variable {κ : Type} [DecidableEq κ]
def dtGet (kvs : List (κ × D)) (k : κ) : Option D := (kvs.find? fun p => decide (p.1 = k)).map (·.2)
def dtPut (kvs : List (κ × D)) (k : κ) (d : D) : List (κ × D) := if (dtGet kvs k).isSome = true then kvs.map (fun p => if p.1 = k then (p.1, d) else p) else kvs ++ [(k, d)]
def dtDrop (kvs : List (κ × D)) (k : κ) : List (κ × D) := kvs.filter fun p => decide (p.1 ≠ k)
theorem dtGet_nil {k : κ} : dtGet [] k = none := rfl
theorem dtGet_cons {p : κ × D} {r : List (κ × D)} {k : κ} : dtGet (p :: r) k = if p.1 = k then some p.2 else dtGet r k := by
  unfold dtGet
  rw [List.find?_cons]
  by_cases e : p.1 = k
  · rw [if_pos e, decide_eq_true e]; rfl
  · rw [if_neg e, decide_eq_false e]
theorem dtGet_app {a b : List (κ × D)} {k : κ} : dtGet (a ++ b) k = (dtGet a k).or (dtGet b k) := by
  unfold dtGet
  rw [List.find?_append]
  cases List.find? _ a <;> simp
theorem dtGet_map {kvs : List (κ × D)} {k j : κ} {d : D} : dtGet (kvs.map fun p => if p.1 = k then (p.1, d) else p) j = (dtGet kvs j).map fun x => if j = k then d else x := by
  induction kvs with
  | nil => rfl
  | cons p r ih =>
    rw [List.map_cons, dtGet_cons, dtGet_cons, ih]
    by_cases e : p.1 = k
    · rw [if_pos e]
      by_cases e2 : p.1 = j
      · subst e2; simp [e]
      · simp [e2]
    · rw [if_neg e]
      by_cases e2 : p.1 = j
      · subst e2; simp [e]
      · simp [e2]
theorem dtGet_put {kvs : List (κ × D)} {k j : κ} {d : D} : dtGet (dtPut kvs k d) j = if j = k then some d else dtGet kvs j := by
  unfold dtPut
  by_cases h : (dtGet kvs k).isSome = true
  · rw [if_pos h, dtGet_map]
    by_cases e : j = k
    · subst e
      obtain ⟨x, hx⟩ := Option.isSome_iff_exists.mp h
      simp [hx]
    · rw [if_neg e]
      cases dtGet kvs j <;> simp [e]
  · rw [if_neg h, dtGet_app, dtGet_cons, dtGet_nil]
    have hn : dtGet kvs k = none := by simpa using h
    by_cases e : j = k
    · subst e; simp [hn]
    · rw [if_neg e, if_neg (fun z => e z.symm)]; simp
theorem dtGet_mem {kvs : List (κ × D)} {k : κ} {d : D} (h : dtGet kvs k = some d) : (k, d) ∈ kvs := by
  unfold dtGet at h
  obtain ⟨p, hp, rfl⟩ := Option.map_eq_some_iff.mp h
  have h1 := List.mem_of_find?_eq_some hp
  have h2 := List.find?_some hp
  have e : p.1 = k := of_decide_eq_true h2
  rw [← e]; exact h1
theorem dtGet_some {kvs : List (κ × D)} {k : κ} : (dtGet kvs k).isSome = decide (k ∈ kvs.map (·.1)) := by
  induction kvs with
  | nil => rfl
  | cons p r ih =>
    rw [dtGet_cons, List.map_cons]
    by_cases e : p.1 = k
    · rw [if_pos e]; simp [e]
    · rw [if_neg e, ih]
      have : k ≠ p.1 := fun z => e z.symm
      simp [this]
theorem dtGet_none {kvs : List (κ × D)} {k : κ} : dtGet kvs k = none ↔ k ∉ kvs.map (·.1) := by
  have := dtGet_some (kvs := kvs) (k := k)
  cases h : dtGet kvs k with
  | none => rw [h] at this; simpa using this.symm
  | some d => rw [h] at this; simp only [reduceCtorEq, false_iff, Classical.not_not]; exact of_decide_eq_true this.symm
theorem dtPut_keys {kvs : List (κ × D)} {k : κ} {d : D} : (dtPut kvs k d).map (·.1) = if k ∈ kvs.map (·.1) then kvs.map (·.1) else kvs.map (·.1) ++ [k] := by
  unfold dtPut
  rw [dtGet_some]
  by_cases h : k ∈ kvs.map (·.1)
  · rw [decide_eq_true h, if_pos rfl, if_pos h, List.map_map]
    refine List.map_congr_left fun p _ => ?_
    show (if p.1 = k then (p.1, d) else p).1 = p.1
    split <;> rfl
  · rw [decide_eq_false h, if_neg Bool.false_ne_true, if_neg h, List.map_append]; rfl
theorem dtPut_new {kvs : List (κ × D)} {k : κ} {d : D} (h : k ∉ kvs.map (·.1)) : dtPut kvs k d = kvs ++ [(k, d)] := by
  unfold dtPut
  rw [dtGet_some, decide_eq_false h, if_neg Bool.false_ne_true]
end
/-! ### over the heap -/
theorem kT_inj {a b : List Int} (h : kT a = kT b) : a = b := by
  unfold kT at h
  exact List.map_inj_right (f := (Sum.inl : Int → Key)) (fun x y e => Sum.inl.inj e) |>.mp h
theorem kI_inj {a b : Int} (h : kI a = kI b) : a = b := Sum.inl.inj h
theorem kT_kV (xs : List Int) : (kT xs).map kV = xs.map V.int := by unfold kT; rw [List.map_map]; rfl
section
variable {K : PySem.W.Frag} {H H' : Hp} {κ κ' : Type} [DecidableEq κ] [DecidableEq κ'] {f : κ → κ'} {kvs : List (κ × D)} {vs : List (κ' × V)}
theorem PRep.len : ∀ {kvs : List (κ × D)} {vs : List (κ' × V)}, PRep K H f kvs vs → vs.length = kvs.length
  | [], _, h => by rw [show _ = [] from h]; rfl
  | _ :: _, _, h => by
    obtain ⟨v, r, rfl, _, h2⟩ := h
    simp only [List.length_cons, PRep.len h2]
theorem PRep.get (inj : ∀ a b, f a = f b → a = b) (k : κ) : ∀ {kvs : List (κ × D)} {vs : List (κ' × V)}, PRep K H f kvs vs → (∀ d, dtGet kvs k = some d → ∃ v, valV vs (f k) = some v ∧ Rep K H d v) ∧ (dtGet kvs k = none → valV vs (f k) = none)
  | [], _, h => by
    rw [show _ = [] from h]
    exact ⟨fun d e => (by cases e), fun _ => rfl⟩
  | (j, d) :: r, _, h => by
    obtain ⟨v, r', rfl, h1, h2⟩ := h
    have ih := PRep.get inj k h2
    rw [dtGet_cons]
    by_cases e : j = k
    · subst e
      rw [if_pos rfl, valV_pos (p := (f j, v)) rfl]
      exact ⟨fun d' e => (by cases e; exact ⟨v, rfl, h1⟩), fun e => (by cases e)⟩
    · rw [if_neg e, valV_neg (p := (f j, v)) (fun z => e (inj _ _ z))]
      exact ih
theorem PRep.isSome (inj : ∀ a b, f a = f b → a = b) (k : κ) (h : PRep K H f kvs vs) : (valV vs (f k)).isSome = (dtGet kvs k).isSome := by
  have g := h.get inj k
  cases e : dtGet kvs k with
  | none => rw [g.2 e]; rfl
  | some d => obtain ⟨v, e2, _⟩ := g.1 d e; rw [e2]; rfl
theorem PRep.app : ∀ {a b : List (κ × D)} {vs us : List (κ' × V)}, PRep K H f a vs → PRep K H f b us → PRep K H f (a ++ b) (vs ++ us)
  | [], _, _, _, h, q => by rw [show _ = [] from h]; exact q
  | _ :: _, _, _, _, h, q => by
    obtain ⟨v, r, rfl, h1, h2⟩ := h
    exact ⟨v, _, rfl, h1, PRep.app h2 q⟩
theorem PRep.mapd (inj : ∀ a b, f a = f b → a = b) {k : κ} {d : D} {v : V} (hv : Rep K H d v) : ∀ {kvs : List (κ × D)} {vs : List (κ' × V)}, PRep K H f kvs vs →
    PRep K H f (kvs.map fun p => if p.1 = k then (p.1, d) else p) (vs.map fun p => if p.1 = f k then (p.1, v) else p)
  | [], _, h => by rw [show _ = [] from h]; exact rfl
  | (j, e) :: r, _, h => by
    obtain ⟨u, r', rfl, h1, h2⟩ := h
    have ih := PRep.mapd (k := k) inj hv h2
    simp only [List.map_cons]
    by_cases z : j = k
    · subst z
      rw [if_pos rfl, if_pos rfl]
      exact ⟨v, _, rfl, hv, ih⟩
    · rw [if_neg z, if_neg (fun y => z (inj _ _ y))]
      exact ⟨u, _, rfl, h1, ih⟩
theorem PRep.put (inj : ∀ a b, f a = f b → a = b) {k : κ} {d : D} {v : V} (h : PRep K H f kvs vs) (hv : Rep K H d v) : PRep K H f (dtPut kvs k d) (putK vs (f k) v) := by
  unfold dtPut putK
  rw [valV_any, h.isSome inj k]
  split
  · exact h.mapd inj hv
  · exact h.app ⟨v, [], rfl, hv, rfl⟩
theorem PRep.drop (inj : ∀ a b, f a = f b → a = b) {k : κ} : ∀ {kvs : List (κ × D)} {vs : List (κ' × V)}, PRep K H f kvs vs → PRep K H f (dtDrop kvs k) (dropK vs (f k))
  | [], _, h => by rw [show _ = [] from h]; exact rfl
  | (j, e) :: r, _, h => by
    obtain ⟨u, r', rfl, h1, h2⟩ := h
    have ih := PRep.drop inj (k := k) h2
    unfold dtDrop dropK at *
    rw [List.filter_cons, List.filter_cons]
    by_cases z : j = k
    · subst z
      simpa using ih
    · have z2 : ¬ f j = f k := fun y => z (inj _ _ y)
      rw [if_pos (by simpa using z), if_pos (by simpa using z2)]
      exact ⟨u, _, rfl, h1, ih⟩
end
/-! ### a dict to be read: one's own, or one that is never changed again -/
def RdT (H : Hp) (a : Addr) (kvs : List (List Key × V)) : Prop := Rd H a (.dT kvs) ∨ ∃ o, H a = some (.frz o (.frz o (.dT kvs)))
theorem right_of {α β : Type} {F : α → β → Prop} : ∀ {l : List α} {m : List β}, Paired F l m → ∀ y ∈ m, ∃ x ∈ l, F x y
  | _, _, .nil, y, hy => by cases hy
  | _, _, .cons r t, y, hy => by
    rcases List.mem_cons.mp hy with rfl | hy
    · exact ⟨_, List.mem_cons_self, r⟩
    · obtain ⟨x, hx, e⟩ := right_of t y hy
      exact ⟨x, List.mem_cons_of_mem _ hx, e⟩
section
variable {P : Program} {w : World} {H : Hp} {h : Heap} {a : Addr} {kvs : List (List Key × V)}
theorem RdT.obj (ok : HOk P w H h) (e : RdT H a kvs) : ObjOk P w H h a (.dT kvs) := by
  rcases e with e | ⟨o, e⟩
  · exact rd_of ok e
  · exact (ok a _ e).2.2
theorem RdT.keyed (ok : HOk P w H h) (e : RdT H a kvs) : kvs.length ≤ sizeLine ∧ (a == sysModules) = false ∧ ∃ xs, KT H kvs xs ∧ h.DictOfH (tupleKind (mixKind P w)) a xs := by
  obtain ⟨l1, l2, xs, pr, ob, es, ep, b1, b2, b3, b4, b5⟩ := e.obj ok
  refine ⟨l1, l2, xs, pr, ob, es, ep, b1, b2, b3, b4, fun x hx => ?_, b5⟩
  obtain ⟨q, _, e1, e2, _⟩ := right_of pr x hx
  exact key_of ok (by rw [← e1]; exact e2)
end
section
variable {X : Cx} {pins : List (Addr × Obj)} {σ : Sl} {H : Hp} {s : Shared} {a b : Addr} {kvs : List (List Key × V)} {k : List Key} {A : Around} {E : Value → Shared → Prop}
theorem RdT.ty (I : Inv X pins σ H s) (g : RdT H a kvs) : s.TypeIs (.ref a) "dict" := by
  obtain ⟨_, _, _, _, dd⟩ := g.keyed I.hok
  exact dd.typeIs
theorem RdT.noDict (I : Inv X pins σ H s) (g : RdT H a kvs) : ∀ c, Value.ref a = .ref c → ∃ ob, s.heap.get? c = some ob ∧ ob.dict = none := fun c e => by
  cases e
  obtain ⟨_, _, _, _, ob, _, _, b1, b2, _⟩ := g.obj I.hok
  exact ⟨ob, b1, b2.2.1⟩
theorem t_getItem {v : V} {Q : Value → Shared → Prop} (hu : A.units + 1 < cLine) (I : Inv X pins σ H s) (g : RdT H a kvs) (hb : H b = some (.tup (k.map kV))) (l : valV kvs k = some v) (q : ∀ u s', Inv X pins σ H s' → RelV v u → Q u s') : wpAny (model X.prog X.w) A (getItem (.ref a) (.ref b)) Q E s := by
  obtain ⟨_, hd, xs, pr, dd⟩ := g.keyed I.hok
  obtain ⟨u, e1, e2⟩ := RelO.some_of (v := v) (o := (atKey xs k).map (·.2)) (by rw [← l]; exact KT.val pr k)
  obtain ⟨p, e3, e4⟩ := Option.map_eq_some_iff.mp e1
  refine wpAny_getItem_heap (tupleKind_room_in1 hu) (key_of I.hok hb) dd e3 ?_
  rw [e4]
  exact q u _ (I.tok _) e2
theorem t_some {xs : List (List Key × Addr × Value)} (pr : KT H kvs xs) (k : List Key) : (atKey xs k).isSome = (valV kvs k).isSome := by
  have e := (KT.val pr k).isSome_eq
  rw [Option.isSome_map] at e
  exact e.symm
theorem t_in {Q : Value → Shared → Prop} (hu : A.units + 1 < cLine) (I : Inv X pins σ H s) (g : RdT H a kvs) (hb : H b = some (.tup (k.map kV))) (q : ∀ s', Inv X pins σ H s' → Q (.bool (valV kvs k).isSome) s') : wpAny (model X.prog X.w) A (compareOp .In (.ref b) (.ref a)) Q E s := by
  obtain ⟨_, hd, xs, pr, dd⟩ := g.keyed I.hok
  refine wpAny_in_heap (tupleKind_room_in1 hu) (key_of I.hok hb) hd dd ?_
  rw [t_some pr]
  exact q _ (I.tok _)
theorem t_notIn {Q : Value → Shared → Prop} (hu : A.units + 1 < cLine) (I : Inv X pins σ H s) (g : RdT H a kvs) (hb : H b = some (.tup (k.map kV))) (q : ∀ s', Inv X pins σ H s' → Q (.bool (!(valV kvs k).isSome)) s') : wpAny (model X.prog X.w) A (compareOp .NotIn (.ref b) (.ref a)) Q E s := by
  obtain ⟨_, hd, xs, pr, dd⟩ := g.keyed I.hok
  refine wpAny_notIn_heap (tupleKind_room_in1 hu) (key_of I.hok hb) hd dd ?_
  rw [t_some pr]
  exact q _ (I.tok _)
theorem t_get2 {x : V} {r : Value} {Q : Value → Shared → Prop} (hu : A.units + 1 < cLine) (I : Inv X pins σ H s) (g : RdT H a kvs) (hb : H b = some (.tup (k.map kV))) (rx : RelV x r) (q : ∀ u s', Inv X pins σ H s' → RelV ((valV kvs k).getD x) u → Q u s') : wpAny (model X.prog X.w) A (call (.builtin "dict.get") [.ref a, .ref b, r]) Q E s := by
  obtain ⟨_, hd, xs, pr, dd⟩ := g.keyed I.hok
  exact call_meetsIn PySem.F.slot_dict_get dd.typeIs PySem.F.entry_dict_get (PySem.F.args_dict_get_3 _ _ _) (meetsH_dict_get_default (tupleKind (mixKind X.prog X.w)) a b hd r) ⟨tupleKind_room_in1 hu, k, xs, key_of I.hok hb, dd, q _ _ (I.tok _) ((KT.val pr k).getD rx)⟩
end
/-- what the dict x has at the key y -/
def AtT (H : Hp) (x y : V) (r : Option V) : Prop := ∃ (a b : Addr) (kvs : List (List Key × V)) (k : List Key), x = .ref a ∧ y = .ref b ∧ RdT H a kvs ∧ H b = some (.tup (k.map kV)) ∧ r = valV kvs k
def tAtT (td ty : TE) : TE := fun σ H Q => td σ H fun x H1 => ty σ H1 fun y H2 => ∃ v, AtT H2 x y (some v) ∧ Q v H2
def tInT (f : Bool → Bool) (ty td : TE) : TE := fun σ H Q => ty σ H fun y H1 => td σ H1 fun x H2 => ∃ r, AtT H2 x y r ∧ Q (.bl (f r.isSome)) H2
section
variable {X : Cx} {o i : Expr} {td ty : TE} {pos : Pos}
theorem pe_atT (hu : X.A.units + 1 < cLine) (ho : PE X o td) (hi : PE X i ty) (hs : NoSl i) : PE X (.Subscript o i pos) (tAtT td ty) := by
  refine ⟨fun pins s σ H Q I h => ?_⟩
  refine subD_of PySem.F.slot_dict_getitem.lookup hs (thn (ho.run pins s σ H _ I h) fun z s1 ⟨x, H1, I1, rx, q1⟩ => thn (hi.run pins s1 σ H1 _ I1 q1) fun zi s2 ⟨y, H2, I2, ry, v, ⟨a, b, kvs, k, ex, ey, g, hb, l⟩, q2⟩ => ?_)
  subst ex ey
  cases rx
  cases ry
  exact ⟨g.ty I2, t_getItem hu I2 g hb l.symm fun u s3 I3 ru => ⟨v, H2, I3, ru, q2⟩⟩
theorem pc_inT (hu : X.A.units + 1 < cLine) (hi : PE X i ty) (ho : PE X o td) : PC X .In i o (tInT (fun b => b) ty td) := by
  refine ⟨fun pins s σ H Q I h => ?_⟩
  refine thn (hi.run pins s σ H _ I h) fun zi s1 ⟨y, H1, I1, ry, q1⟩ => thn (ho.run pins s1 σ H1 _ I1 q1) fun z s2 ⟨x, H2, I2, rx, r, ⟨a, b, kvs, k, ex, ey, g, hb, l⟩, q2⟩ => ?_
  subst ex ey l
  cases rx
  cases ry
  exact t_in hu I2 g hb fun s3 I3 => ⟨.bl (valV kvs k).isSome, H2, I3, rfl, q2⟩
theorem pc_notInT (hu : X.A.units + 1 < cLine) (hi : PE X i ty) (ho : PE X o td) : PC X .NotIn i o (tInT (fun b => !b) ty td) := by
  refine ⟨fun pins s σ H Q I h => ?_⟩
  refine thn (hi.run pins s σ H _ I h) fun zi s1 ⟨y, H1, I1, ry, q1⟩ => thn (ho.run pins s1 σ H1 _ I1 q1) fun z s2 ⟨x, H2, I2, rx, r, ⟨a, b, kvs, k, ex, ey, g, hb, l⟩, q2⟩ => ?_
  subst ex ey l
  cases rx
  cases ry
  exact t_notIn hu I2 g hb fun s3 I3 => ⟨.bl (!(valV kvs k).isSome), H2, I3, rfl, q2⟩
end
/-- such a dict as data -/
def dkD (kvs : List (List Int × D)) : D := .dict (kvs.map fun q => (tI q.1, q.2))
theorem int_inj : ∀ {a b : List Int}, a.map PyData.int = b.map PyData.int → a = b
  | [], [], _ => rfl
  | [], _ :: _, h => by cases h
  | _ :: _, [], h => by cases h
  | x :: a, y :: b, h => by
    rw [List.map_cons, List.map_cons, List.cons.injEq] at h
    rw [int_inj h.2, PyData.int.inj h.1]
theorem prep_of {K : PySem.W.Frag} {H : Hp} : ∀ {kvs : List (List Int × D)} {vs : List (List Key × V)}, RepD K H (kvs.map fun q => (tI q.1, q.2)) vs → PRep K H kT kvs vs
  | [], _, h => h
  | (k, d) :: r, _, h => by
    obtain ⟨kv, r', rfl, ⟨⟨ks, e, e2⟩, h1⟩, h2⟩ := h
    obtain rfl := int_inj (PyData.tuple.inj e)
    exact ⟨kv.2, r', by rw [show kT k = kv.1 from e2.symm], h1, prep_of h2⟩
theorem of_prep {K : PySem.W.Frag} {H : Hp} : ∀ {kvs : List (List Int × D)} {vs : List (List Key × V)}, PRep K H kT kvs vs → RepD K H (kvs.map fun q => (tI q.1, q.2)) vs
  | [], _, h => h
  | (k, d) :: r, _, h => by
    obtain ⟨v, r', rfl, h1, h2⟩ := h
    exact ⟨(kT k, v), r', rfl, ⟨⟨k, rfl, rfl⟩, h1⟩, of_prep h2⟩
/-- the pairs of a dict that a value is -/
def dtOf (Γ : G) : SV → (List (List Int × D) → Prop) → Prop
  | .ow _ (.dT kvs), k => k kvs
  | .bw i, k => match Γ[i]? with
    | some (.ow _ (.dT kvs)) => k kvs
    | some (.ow _ (.dR kvs)) => k kvs
    | _ => False
  | .fz (.dict ps), k => ∃ kvs : List (List Int × D), ps = kvs.map (fun q => (tI q.1, q.2)) ∧ k kvs
  | _, _ => False
theorem dtOf_mono {Γ : G} {r : SV} {k k' : List (List Int × D) → Prop} (h : ∀ d, k d → k' d) (q : dtOf Γ r k) : dtOf Γ r k' := by
  unfold dtOf at q ⊢
  split at q
  · exact h _ q
  · split at q <;> first | exact h _ q | exact q
  · obtain ⟨kvs, e, q⟩ := q
    exact ⟨kvs, e, h _ q⟩
  · exact q
theorem dtOf_ok {K : PySem.W.Frag} {H H0 : Hp} {σ : Sl} {Γ Γ0 : G} {r : SV} {v : V} {k : List (List Int × D) → Prop} (g : RG K H σ Γ) (q : Res K H0 σ Γ0 H Γ v r) (h : dtOf Γ r k) : ∃ a kvs vs, v = .ref a ∧ RdT H a vs ∧ PRep K H kT kvs vs ∧ k kvs := by
  unfold dtOf at h
  split at h
  · obtain ⟨rfl, ⟨vs, e, rs⟩, _, _⟩ := q
    exact ⟨_, _, vs, rfl, .inl (.of e), rs, h⟩
  · split at h
    · rename_i e
      obtain ⟨e1, vs, e2, rs⟩ := g.ow _ _ _ e
      have e3 := (show σ[_]? = some (some v) from q).symm.trans e1
      cases e3
      exact ⟨_, _, vs, rfl, .inl (.of e2), rs, h⟩
    · rename_i e
      obtain ⟨e1, o, vs, e2, rs⟩ := g.ow _ _ _ e
      have e3 := (show σ[_]? = some (some v) from q).symm.trans e1
      cases e3
      exact ⟨_, _, vs, rfl, .inl (.inr ⟨o, e2⟩), rs, h⟩
    · exact h.elim
  · obtain ⟨kvs, rfl, h⟩ := h
    obtain ⟨a, o, vs, rfl, e1, e2⟩ := (show Rep K H _ v from q)
    exact ⟨a, kvs, vs, rfl, .inr ⟨o, e1⟩, prep_of e2, h⟩
  · exact h.elim
theorem key_at {K : PySem.W.Frag} {H : Hp} {ks : List Int} {v : V} (h : RepN K H (tI ks) v) : ∃ b, v = .ref b ∧ H b = some (.tup ((kT ks).map kV)) := by
  obtain ⟨b, vs, rfl, h1, h2⟩ := h.tuple
  rw [Reps.ints h2] at h1
  exact ⟨b, rfl, by rw [kT_kV]; exact h1⟩
section
variable {X : Cx} {a b e value : Expr} {ta tb tk te : TD} {pos : Pos}
def tdDGet (tb tk : TD) : TD := fun Γ Q => tb Γ fun x Γ1 => tk Γ1 fun y Γ2 => dtOf Γ2 x fun kvs => dat Γ2 y fun kd => ∃ (ks : List Int) (v : D), kd = tI ks ∧ dtGet kvs ks = some v ∧ Q (.fz v) Γ2
theorem pd_dget (hu : X.A.units + 64 < cLine) (ha : PD X a ta) (hb : PD X b tb) (hs : NoSl b := by intro _ _; rfl) : PD X (.Subscript a b pos) (tdDGet ta tb) := by
  refine ⟨PE.imp (pe_atT (by omega) ha.run hb.run hs) fun σ H Q ⟨Γ, g0, q⟩ => ⟨Γ, g0, ha.mono _ _ _ (fun x Γ1 q1 => ?_) q⟩, fun Γ Q Q' h => ha.mono _ _ _ fun x Γ1 => hb.mono _ _ _ fun y Γ2 => dtOf_mono fun kvs => dat_mono fun kd ⟨ks, v, e1, e2, q⟩ => ⟨ks, v, e1, e2, h _ _ q⟩⟩
  intro v H1 a1 r1
  refine ⟨Γ1, a1.rg, hb.mono _ _ _ (fun y Γ2 q2 => ?_) q1⟩
  intro u H2 a2 r2
  have a12 := a1.trans g0 a2
  obtain ⟨p, kvs, vs, rfl, hp, pr, q2⟩ := dtOf_ok a2.rg (r1.later g0 a1.rg a2) q2
  obtain ⟨kd, nk, ks, w, rfl, eg, q2⟩ := dat_ok a2.rg r2 q2
  obtain ⟨b', rfl, hb'⟩ := key_at nk
  obtain ⟨w', ew, rw'⟩ := (pr.get (fun _ _ => kT_inj) ks).1 w eg
  exact ⟨w', ⟨p, b', vs, kT ks, rfl, rfl, hp, hb', ew.symm⟩, q2 w' H2 a12 rw'⟩
def tdDIn (f : Bool → Bool) (tk tb : TD) : TD := fun Γ Q => tk Γ fun y Γ1 => tb Γ1 fun x Γ2 => dtOf Γ2 x fun kvs => dat Γ2 y fun kd => ∃ ks : List Int, kd = tI ks ∧ Q (.fz (.bool (f (dtGet kvs ks).isSome))) Γ2
theorem tdDIn_mono {f : Bool → Bool} (ma : Mono ta) (mb : Mono tb) : Mono (tdDIn f ta tb) := fun Γ Q Q' h => ma _ _ _ fun x Γ1 => mb _ _ _ fun y Γ2 => dtOf_mono fun kvs => dat_mono fun kd ⟨ks, e1, q⟩ => ⟨ks, e1, h _ _ q⟩
theorem tdDIn_ok {f : Bool → Bool} (ma : Mono ta) (mb : Mono tb) {σ : Sl} {H : Hp} {Q : VK} (q : lift X.K (tdDIn f ta tb) σ H Q) : lift X.K ta σ H fun y H1 => lift X.K tb σ H1 fun x H2 => ∃ r, AtT H2 x y r ∧ Q (.bl (f r.isSome)) H2 := by
  obtain ⟨Γ, g0, q⟩ := q
  refine ⟨Γ, g0, ma _ _ _ (fun y Γ1 q1 => ?_) q⟩
  intro u H1 a1 r1
  refine ⟨Γ1, a1.rg, mb _ _ _ (fun x Γ2 q2 => ?_) q1⟩
  intro v H2 a2 r2
  have a12 := a1.trans g0 a2
  obtain ⟨p, kvs, vs, rfl, hp, pr, q2⟩ := dtOf_ok a2.rg r2 q2
  obtain ⟨kd, nk, ks, rfl, q2⟩ := dat_ok a2.rg (r1.later g0 a1.rg a2) q2
  obtain ⟨b', rfl, hb'⟩ := key_at nk
  refine ⟨valV vs (kT ks), ⟨p, b', vs, kT ks, rfl, rfl, hp, hb', rfl⟩, ?_⟩
  rw [pr.isSome (fun _ _ => kT_inj)]
  exact q2 _ H2 a12 rfl
theorem pd_din (hu : X.A.units + 64 < cLine) (ha : PD X a ta) (hb : PD X b tb) (hm : behindInMarks .In b = false := by first | rfl | exact nomark _) : PD X (.Compare a [.In] [b] pos) (tdDIn (fun b => b) ta tb) :=
  ⟨PE.imp (pe_cmp (pc_inT (by omega) ha.run hb.run) hm) fun σ H Q q => tdDIn_ok ha.mono hb.mono q, tdDIn_mono ha.mono hb.mono⟩
theorem pd_dnin (hu : X.A.units + 64 < cLine) (ha : PD X a ta) (hb : PD X b tb) (hm : behindInMarks .NotIn b = false := by first | rfl | exact nomark _) : PD X (.Compare a [.NotIn] [b] pos) (tdDIn (fun b => !b) ta tb) :=
  ⟨PE.imp (pe_cmp (pc_notInT (by omega) ha.run hb.run) hm) fun σ H Q q => tdDIn_ok ha.mono hb.mono q, tdDIn_mono ha.mono hb.mono⟩
theorem pb_din (hu : X.A.units + 64 < cLine) (ha : PD X a ta) (hb : PD X b tb) (hm : behindInMarks .In b = false := by first | rfl | exact nomark _) : PB X (.Compare a [.In] [b] pos) (tdB (tdDIn (fun b => b) ta tb)) :=
  ⟨PT.imp (pt_cmp (pc_inT (by omega) ha.run hb.run) hm) fun σ H Q q => tTest_imp (fun _ _ _ => tdDIn_ok ha.mono hb.mono) (tdB_ok (tdDIn_mono ha.mono hb.mono) q), tdB_mono (tdDIn_mono ha.mono hb.mono)⟩
theorem pb_dnin (hu : X.A.units + 64 < cLine) (ha : PD X a ta) (hb : PD X b tb) (hm : behindInMarks .NotIn b = false := by first | rfl | exact nomark _) : PB X (.Compare a [.NotIn] [b] pos) (tdB (tdDIn (fun b => !b) ta tb)) :=
  ⟨PT.imp (pt_cmp (pc_notInT (by omega) ha.run hb.run) hm) fun σ H Q q => tTest_imp (fun _ _ _ => tdDIn_ok ha.mono hb.mono) (tdB_ok (tdDIn_mono ha.mono hb.mono) q), tdB_mono (tdDIn_mono ha.mono hb.mono)⟩
/-- d[k] = v, d the name of slot j -/
def tsPutT (j : Nat) (te tk : TD) : TSD := fun E Γ => te Γ fun r Γ1 => match r, Γ1[j]? with
  | .fz d, some (.ow _ _) => tk Γ1 fun r2 Γ2 => dat Γ2 r2 fun kd => (match Γ2[j]? with
    | some (.ow p (.dT kvs)) => kvs.length < sizeLine ∧ ∃ ks : List Int, kd = tI ks ∧ E.nx (Γ2.set j (.ow p (.dT (dtPut kvs ks d))))
    | _ => False)
  | _, _ => False
variable {x : Str} {p spos tpos : Pos} {idx : Expr} {ti : TD}
theorem pd_putT (j : Nat) (hu : X.A.units + 64 < cLine) (ho : PE X (.Name x p) (tVar j)) (hi : PD X idx ti) (hv : PD X value te)
    (hs : swapsWith value (some (.Subscript (.Name x p) idx tpos)) spos.line X.env = pure false := by rfl) :
    PDS X (.Assign [.Subscript (.Name x p) idx tpos] value spos) (tsPutT j te ti) := by
  refine ⟨fun W tk => PS.imp (ps_dput (by omega) ho hi.run hv.run hs) fun D σ H ⟨Γ, g0, q⟩ => ⟨Γ, g0, hv.mono _ _ _ (fun r Γ1 q v H1 a1 r1 => ?_) q⟩, fun D D' Γ h => hv.mono _ _ _ fun r Γ1 q => ?_⟩
  · split at q
    · rename_i d p1 o1 e1
      obtain ⟨z1, _⟩ := a1.rg.ow _ _ _ e1
      refine ⟨_, z1, Γ1, a1.rg, hi.mono _ _ _ (fun r2 Γ2 q u H2 a2 r2' => ?_) q⟩
      have a12 := a1.trans g0 a2
      have rd : Rep X.K H2 d v := Rep.imm r1 (a2.imm a1.rg)
      obtain ⟨kd, nk, q⟩ := dat_ok a2.rg r2' q
      split at q
      · rename_i p2 kvs e2
        obtain ⟨w1, vs, w2, pr⟩ := a2.rg.ow _ _ _ e2
        rw [z1] at w1
        cases w1
        obtain ⟨hl, ks, rfl, q⟩ := q
        obtain ⟨b', rfl, hb'⟩ := key_at nk
        have im : Imm H2 (upd H2 p1 (.dT (putK vs (kT ks) v))) := Imm.upd (.inr (by rw [w2]; trivial))
        exact ⟨p1, _, rfl, DPut.t w2 hb' (by rw [pr.len]; exact hl), q σ _ (aft_upd g0 a12 e2 upd_k im ⟨_, upd_same, (pr.put (fun _ _ => kT_inj) rd).imm im⟩)⟩
      · exact q.elim
    · exact q.elim
  · split at q
    · refine hi.mono _ _ _ (fun r2 Γ2 => dat_mono fun k q => ?_) q
      split at q
      · obtain ⟨hl, ks, e, q⟩ := q
        exact ⟨hl, ks, e, h.nx _ q⟩
      · exact q
    · exact q
end
/-! ### calls that are handed a dict -/
abbrev GT := List (List Int × D) → (R → Prop) → Prop
structure CallT (X : Cx) (f : Value) (g : GT) : Prop where
  ok : ∃ r, CallR X f r ∧ ∀ (H : Hp) (a : Addr) (kvs : List (List Int × D)) (vs : List (List Key × V)) (Q : VK), RdT H a vs → PRep X.K H kT kvs vs → g kvs (fun z => ∀ w H', Same H H' → RRes X.K H H' w z → Q w H') → r [.ref a] H Q
  mono : ∀ kvs (k k' : R → Prop), (∀ z, k z → k' z) → g kvs k → g kvs k'
def tdCT (g : GT) (ta : TD) : TD := fun Γ Q => ta Γ fun x Γ1 => dtOf Γ1 x fun kvs => g kvs (rq Γ1 Q)
section
variable {X : Cx} {e : Expr} {ta : TD} {x : Str} {id T : String} {p pos : Pos}
theorem tdCT_mono {f : Value} {g : GT} (h : CallT X f g) (m : Mono ta) : Mono (tdCT g ta) := fun Γ Q Q' hq => m _ _ _ fun rs Γ' => dtOf_mono fun ds => h.mono _ _ _ fun z => rq_mono hq
theorem tdCT_ok {f : Value} {g : GT} (h : CallT X f g) {r : List V → Hp → VK → Prop}
    (hr : ∀ (H : Hp) (a : Addr) (kvs : List (List Int × D)) (vs : List (List Key × V)) (Q : VK), RdT H a vs → PRep X.K H kT kvs vs → g kvs (fun z => ∀ w H', Same H H' → RRes X.K H H' w z → Q w H') → r [.ref a] H Q)
    (m : Mono ta) {σ : Sl} {H : Hp} {Q : VK} (q : lift X.K (tdCT g ta) σ H Q) : lift X.K ta σ H fun v H1 => r [v] H1 Q := by
  obtain ⟨Γ, g0, q⟩ := q
  refine ⟨Γ, g0, m _ _ _ (fun x Γ1 q1 => ?_) q⟩
  intro v H1 a1 r1
  obtain ⟨a, kvs, vs, rfl, hp, pr, q1⟩ := dtOf_ok a1.rg r1 q1
  refine hr H1 a kvs vs Q hp pr (h.mono _ _ _ (fun z qz => ?_) q1)
  intro w H' sm rr
  exact rq_ok g0 a1 qz sm rr
theorem pd_callBT {g : GT} (h : CallT X (.builtin id) g) (hg : Gl X x) (hm : X.mg x = none) (hv : bootBuiltins x = some (.builtin id)) (ha : PD X e ta)
    (hn : x ≠ "__name__" := by decide) (hdb : (x == ("__debug__" : Str)) = false := by decide) (hst : starEach [e] X.env = (false, eval e X.env) :: starEach [] X.env := by rfl) (hpl : (backTo pos (starEach [] X.env)).any (·.1) = false := by rfl) :
    PD X (.Call (.Name x p) [e] [] pos) (tdCT g ta) := by
  obtain ⟨r, hc, hr⟩ := h.ok
  exact ⟨PE.imp (pe_callB hc hg hm hv (pa_cons ha.run pa_nil hst) hn hdb hst hpl) fun σ H Q q => tdCT_ok h hr ha.mono q, tdCT_mono h ha.mono⟩
theorem pd_callTyT {g : GT} (h : CallT X (.type T) g) (hg : Gl X x) (hm : X.mg x = none) (hv : bootBuiltins x = some (.type T)) (ha : PD X e ta)
    (hn : x ≠ "__name__" := by decide) (hdb : (x == ("__debug__" : Str)) = false := by decide) (hst : starEach [e] X.env = (false, eval e X.env) :: starEach [] X.env := by rfl) (hpl : (backTo pos (starEach [] X.env)).any (·.1) = false := by rfl) :
    PD X (.Call (.Name x p) [e] [] pos) (tdCT g ta) := by
  obtain ⟨r, hc, hr⟩ := h.ok
  exact ⟨PE.imp (pe_callTy hc hg hm hv (pa_cons ha.run pa_nil hst) hn hdb hst hpl) fun σ H Q q => tdCT_ok h hr ha.mono q, tdCT_mono h ha.mono⟩
end
theorem PRep.keys {K : PySem.W.Frag} {H : Hp} {κ κ' : Type} {f : κ → κ'} : ∀ {kvs : List (κ × D)} {vs : List (κ' × V)}, PRep K H f kvs vs → vs.map (·.1) = kvs.map fun p => f p.1
  | [], _, h => by rw [show _ = [] from h]; rfl
  | (k, d) :: r, _, h => by
    obtain ⟨v, r', rfl, _, h2⟩ := h
    rw [List.map_cons, List.map_cons, PRep.keys h2]
theorem keys_reps {K : PySem.W.Frag} {H : Hp} : ∀ {kvs : List (List Int × D)} {vs : List (List Key × V)} {bs : List Addr}, vs.map (·.1) = kvs.map (fun p => kT p.1) → IsKeys H vs bs → Reps K H (kvs.map fun q => tI q.1) (bs.map V.ref)
  | [], vs, bs, e, h => by
    cases h with
    | nil => exact rfl
    | cons _ _ => cases e
  | (k, d) :: r, vs, bs, e, h => by
    cases h with
    | nil => cases e
    | @cons q b vs bs h1 h2 =>
      rw [List.map_cons, List.map_cons, List.cons.injEq] at e
      have h1 : H b = some (.tup (q.1.map kV)) := h1
      rw [e.1, kT_kV] at h1
      exact ⟨.ref b, _, rfl, ⟨b, _, rfl, h1, Reps.of_ints k⟩, keys_reps e.2 h2⟩
def gLenT : GT := fun kvs k => k (.dat (.int (kvs.length : Nat)))
def gListT : GT := fun kvs k => k (.new (.lst (kvs.map fun q => tI q.1)))
section
variable {X : Cx}
theorem acc_keys {P : Program} {w : World} {xs : List (List Key × Addr × Value)} {es : Array DictEntry} (he : es.toList = xs.map (entryOfKey (tupleKind (mixKind P w)))) {acc : List Value} (al : acc.length = es.size) (ae : ∀ (j : Nat) (v : Value), acc[j]? = some v → ∃ en : DictEntry, es[j]? = some en ∧ v = en.key) : acc = xs.map fun x => Value.ref x.2.1 := by
  have l1 : es.size = xs.length := size_of_entries he
  apply List.ext_getElem?
  intro j
  rw [List.getElem?_map]
  cases hj : acc[j]? with
  | none =>
    have h1 := List.getElem?_eq_none_iff.mp hj
    rw [List.getElem?_eq_none (by omega)]
    rfl
  | some v =>
    obtain ⟨en, hen, hv⟩ := ae j v hj
    have q := entry_at he j
    rw [hen] at q
    cases hx : xs[j]? with
    | none =>
      rw [hx] at q
      cases q
    | some x =>
      rw [hx] at q
      rw [hv, show en = entryOfKey (tupleKind (mixKind P w)) x from Option.some.inj q]
      rfl
theorem call_listT (hc : X.calm = true) : CallR X (.type "list") (fun zs H Q => ∃ (d : Addr) (kvs : List (List Key × V)), zs = [V.ref d] ∧ RdT H d kvs ∧ ∀ (p : Addr) (bs : List Addr), H p = none → IsKeys H kvs bs → Q (.ref p) (upd H p (.lst (bs.map V.ref)))) := by
  intro pins s σ H zs us Q I r h
  obtain ⟨d, kvs, rfl, g, q⟩ := h
  obtain ⟨u, rfl, rx⟩ := r.one
  cases rx
  obtain ⟨z, l2, xs, pr, ob, es, ep, b1, b2, b3, b4, _⟩ := g.obj I.hok
  have l1 : es.size = xs.length := size_of_entries b4
  have l3 : kvs.length = xs.length := Paired.length pr
  refine PySem.W.kdl_call (kdl_raw l2 b2 b3) (I.ok.hd hc) b1 (by omega) fun h' tk acc c' kp e it => ?_
  have ea : acc.toList = xs.map fun x => Value.ref x.2.1 := acc_keys b4 (by rw [Array.length_toList]; exact it.1) fun j v hv => it.2 j v (by rw [← Array.getElem?_toList]; exact hv)
  have rv : Vals ((xs.map fun x => x.2.1).map V.ref) acc.toList := by
    rw [ea, show (xs.map fun x => Value.ref x.2.1) = (xs.map fun x => x.2.1).map Value.ref by rw [List.map_map]; rfl]
    exact vals_refs _
  exact ⟨.ref s.heap.objs.size, _, I.laid (t' := tk) (o := .lst ((xs.map fun x => x.2.1).map V.ref)) kp (Nat.le_refl _) ⟨by rw [List.length_map, List.length_map]; omega, acc.toList, c', rv, by rw [Array.toArray_toList]; exact e⟩, rfl, q _ _ (I.hok.fresh (Nat.le_refl _)) (isKeys_of pr)⟩
theorem ct_list (hc : X.calm = true) : CallT X (.type "list") gListT := by
  refine ⟨⟨_, call_listT hc, fun H a kvs vs Q hp pr q => ?_⟩, fun kvs k k' h q => h _ q⟩
  exact ⟨a, vs, rfl, hp, fun p bs hn hk => q _ _ (same_upd hn) ⟨rfl, p, rfl, hn, _, upd_same, (keys_reps pr.keys hk).imm (imm_same (same_upd hn))⟩⟩
end
/-! ### a dict that is walked stands still -/
def unl (i : Nat) (p : Addr) (kvs : List (List Int × D)) (k : G → Prop) : G → Prop := fun Γ' => Γ'[i]? = some (.ow p (.dR kvs)) ∧ k (Γ'.set i (.ow p (.dT kvs)))
def tsLock (i : Nat) (t : TSD) : TSD := fun E Γ => match Γ[i]? with
  | some (.ow p (.dT kvs)) => t { nx := unl i p kvs E.nx, rt := fun r Γ' => isBw r = false ∧ unl i p kvs (E.rt r) Γ', bk := unl i p kvs E.bk, ct := unl i p kvs E.ct } (Γ.set i (.ow p (.dR kvs)))
  | _ => False
def tdLock (i : Nat) (t : TD) : TD := fun Γ Q => match Γ[i]? with
  | some (.ow p (.dT kvs)) => t (Γ.set i (.ow p (.dR kvs))) fun r Γ' => isBw r = false ∧ unl i p kvs (Q r) Γ'
  | _ => False
section
variable {K : PySem.W.Frag} {H H1 H' : Hp} {σ σ' : Sl} {Γ Γ' : G} {i : Nat} {p : Addr} {kvs : List (List Int × D)} {vs : List (List Key × V)} {od : Obj}
theorem rg_lock (g : RG K H σ Γ) (e : Γ[i]? = some (.ow p (.dT kvs))) (hp : H p = some (.dT vs)) (pr : PRep K H kT kvs vs) : Aft K H Γ (upd H p (.frz od (.dT vs))) σ (Γ.set i (.ow p (.dR kvs))) := by
  have im : Imm H (upd H p (.frz od (.dT vs))) := Imm.upd (.inr (by rw [hp]; trivial))
  exact aft_upd g (Aft.refl g) e upd_k im ⟨od, vs, upd_same, pr.imm im⟩
theorem imr_upd {o u : HO} (h : H p = some (.frz od (.dT vs))) : Imr H (upd H p u) := by
  refine ⟨fun a xs e => ?_, fun a o xs e => ?_, fun a o xs e => ?_⟩
  · rw [upd_ne (fun z => by rw [z, h] at e; cases e)]; exact e
  · rw [upd_ne (fun z => by rw [z, h] at e; cases e)]; exact e
  · rw [upd_ne (fun z => by rw [z, h] at e; cases e)]; exact e
theorem aft_unlock (g : RG K H σ Γ) (e : Γ[i]? = some (.ow p (.dT kvs))) (hp : H p = some (.dT vs)) (pr : PRep K H kT kvs vs) (a : Aft K (upd H p (.frz od (.dT vs))) (Γ.set i (.ow p (.dR kvs))) H' σ' Γ') (e' : Γ'[i]? = some (.ow p (.dR kvs))) :
    H' p = some (.frz od (.dT vs)) ∧ Aft K H Γ (upd H' p (.dT vs)) σ' (Γ'.set i (.ow p (.dT kvs))) := by
  have hq : H' p = some (.frz od (.dT vs)) := a.im p _ upd_same (fun z => z)
  have im0 : Imm H (upd H p (.frz od (.dT vs))) := Imm.upd (.inr (by rw [hp]; trivial))
  have ir : Imr H' (upd H' p (.dT vs)) := imr_upd (o := .dT vs) hq
  have im : Imm H (upd H' p (.dT vs)) := ⟨fun c u ec m => by
    have nc : c ≠ p := fun z => by
      rw [z, hp] at ec
      cases ec
      exact m trivial
    rw [upd_ne nc]
    exact a.im c u (im0 c u ec m) m, (im0.tb.trans a.im.tb).trans (.frz hq)⟩
  have ownE : ∀ {c : Addr}, own (Γ.set i (.ow p (.dR kvs))) c → own Γ c := fun {c} h => by
    obtain ⟨j, q, o, z, ha⟩ := own_el h
    by_cases n : j = i
    · subst n
      have hi : j < Γ.length := by
        rcases Nat.lt_or_ge j Γ.length with y | y
        · exact y
        · rw [List.getElem?_eq_none y] at e; cases e
      rw [List.getElem?_set_self hi] at z
      cases z
      exact own_mk e ha
    · rw [List.getElem?_set_ne (Ne.symm n)] at z
      exact own_mk z ha
  have hi : i < Γ'.length := by
    rcases Nat.lt_or_ge i Γ'.length with y | y
    · exact y
    · rw [List.getElem?_eq_none y] at e'; cases e'
  have at_ : ∀ (j : Nat) (s : SV), (Γ'.set i (.ow p (.dT kvs)))[j]? = some s → (j = i ∧ s = .ow p (.dT kvs)) ∨ (j ≠ i ∧ Γ'[j]? = some s) := fun j s q => by
    by_cases z : j = i
    · subst z
      rw [List.getElem?_set_self hi] at q
      exact .inl ⟨rfl, (Option.some.inj q).symm⟩
    · rw [List.getElem?_set_ne (Ne.symm z)] at q
      exact .inr ⟨z, q⟩
  have ne : ∀ {j : Nat} {q : Addr} {o1 : O}, j ≠ i → Γ'[j]? = some (.ow q o1) → ∀ b ∈ q :: o1.fp, b ≠ p := fun {j q o1} n z b hb z2 => n (a.rg.one' z e' hb (by rw [z2]; exact List.mem_cons_self))
  refine ⟨hq, ⟨fun c u ec n => ?_, ⟨by rw [List.length_set]; exact a.rg.len, fun j d q => ?_, fun j q o z => ?_, fun j v q => ?_, one_mk fun j j' q q' o1 o2 b w w' ha hb => ?_, g.tbm im⟩, fun c hc => ?_, im⟩⟩
  · have nc : c ≠ p := fun z => n (by rw [z]; exact own_p e)
    rw [upd_ne nc]
    intro _
    exact a.keep c u (by rw [upd_ne nc]; exact ec) fun z => n (ownE z)
  · rcases at_ j _ q with ⟨_, z⟩ | ⟨_, z⟩
    · cases z
    · obtain ⟨v, h1, h2⟩ := a.rg.fz _ _ z
      exact ⟨v, h1, h2.imr ir⟩
  · rcases at_ j _ z with ⟨rfl, y⟩ | ⟨n, y⟩
    · cases y
      exact ⟨(a.rg.ow _ _ _ e').1, vs, upd_same, pr.imm im⟩
    · obtain ⟨h1, h2⟩ := a.rg.ow _ _ _ y
      exact ⟨h1, h2.keepr (fun b hb u z => keep_upd b u (ne n y b hb) z) ir⟩
  · rcases at_ j _ q with ⟨_, z⟩ | ⟨_, z⟩
    · cases z
    · exact a.rg.raw _ _ z
  · rcases at_ j _ w with ⟨rfl, y⟩ | ⟨n, y⟩
    · rcases at_ j' _ w' with ⟨rfl, y'⟩ | ⟨n', y'⟩
      · rfl
      · cases y
        exact absurd (by simpa [O.fp] using ha) (ne n' y' b hb)
    · rcases at_ j' _ w' with ⟨rfl, y'⟩ | ⟨n', y'⟩
      · cases y'
        exact absurd (by simpa [O.fp] using hb) (ne n y b ha)
      · exact a.rg.one' y y' ha hb
  · obtain ⟨j, q0, o1, q, ha⟩ := own_el hc
    have ow : own Γ' c := by
      rcases at_ j _ q with ⟨rfl, y⟩ | ⟨n, y⟩
      · cases y
        exact own_mk e' ha
      · exact own_mk y ha
    rcases a.sh c ow with z | z
    · exact .inl (ownE z)
    · by_cases nc : c = p
      · exact .inl (by rw [nc]; exact own_p e)
      · rw [upd_ne nc] at z
        exact .inr z
theorem res_unlock {v : V} {r : SV} (e : Γ[i]? = some (.ow p (.dT kvs))) (hp : H p = some (.dT vs)) (a : Aft K (upd H p (.frz od (.dT vs))) (Γ.set i (.ow p (.dR kvs))) H' σ' Γ') (e' : Γ'[i]? = some (.ow p (.dR kvs))) (hb : isBw r = false)
    (q : Res K (upd H p (.frz od (.dT vs))) σ (Γ.set i (.ow p (.dR kvs))) H' Γ' v r) : Res K H σ Γ (upd H' p (.dT vs)) (Γ'.set i (.ow p (.dT kvs))) v r := by
  have hq : H' p = some (.frz od (.dT vs)) := a.im p _ upd_same (fun z => z)
  have ir : Imr H' (upd H' p (.dT vs)) := imr_upd (o := .dT vs) hq
  cases r with
  | no => trivial
  | fz d => exact Rep.imr q ir
  | raw u => exact q
  | bw j => cases hb
  | ow b o =>
    obtain ⟨e1, w, n, f⟩ := q
    have np : ∀ c ∈ b :: o.fp, c ≠ p := fun c hc z => n c hc (by rw [z]; exact own_p e')
    have hi : i < Γ'.length := by
      rcases Nat.lt_or_ge i Γ'.length with y | y
      · exact y
      · rw [List.getElem?_eq_none y] at e'; cases e'
    refine ⟨e1, w.keepr (fun c hc u z => keep_upd c u (np c hc) z) ir, fun c hc h => ?_, fun c hc => ?_⟩
    · obtain ⟨j, q0, o1, z, ha⟩ := own_el h
      by_cases m : j = i
      · subst m
        rw [List.getElem?_set_self hi] at z
        cases z
        exact np c hc (by simpa [O.fp] using ha)
      · rw [List.getElem?_set_ne (Ne.symm m)] at z
        exact n c hc (own_mk z ha)
    · rcases f c hc with h | h
      · obtain ⟨j, q0, o1, z, ha⟩ := own_el h
        by_cases m : j = i
        · subst m
          have hi : j < Γ.length := by
            rcases Nat.lt_or_ge j Γ.length with y | y
            · exact y
            · rw [List.getElem?_eq_none y] at e; cases e
          rw [List.getElem?_set_self hi] at z
          cases z
          exact .inl (own_mk e ha)
        · rw [List.getElem?_set_ne (Ne.symm m)] at z
          exact .inl (own_mk z ha)
      · rw [upd_ne (np c hc)] at h
        exact .inr h
end
section
variable {X : Cx} {st : Stmt} {t : TSD} {e : Expr} {te : TD}
theorem unl_mono {i : Nat} {p : Addr} {kvs : List (List Int × D)} {k k' : G → Prop} (h : ∀ Γ, k Γ → k' Γ) {Γ : G} (q : unl i p kvs k Γ) : unl i p kvs k' Γ := ⟨q.1, h _ q.2⟩
theorem pd_lock (i : Nat) (h : PDS X st t) : PDS X st (tsLock i t) := by
  refine ⟨fun W tk => PS.imp (ps_lock (h.run W tk)) fun D σ H ⟨Γ, g, q⟩ => ?_, fun D D' Γ le q => ?_⟩
  · unfold tsLock at q
    split at q
    · rename_i p kvs e
      obtain ⟨w1, vs, w2, pr⟩ := g.ow _ _ _ e
      refine ⟨p, _, w2, trivial, fun od => ⟨_, (rg_lock g e w2 pr).rg, h.mono _ _ _ ?_ q⟩⟩
      refine ⟨fun Γ' z σ' H' a => ?_, fun r Γ' z v σ' H' a rs => ?_, fun Γ' z σ' H' a => ?_, fun Γ' z σ' H' a => ?_, fun x Γ' z => z.elim⟩
      · obtain ⟨h1, h2⟩ := aft_unlock g e w2 pr a z.1
        exact ⟨h1, z.2 _ _ h2⟩
      · obtain ⟨h1, h2⟩ := aft_unlock g e w2 pr a z.2.1
        exact ⟨h1, z.2.2 v _ _ h2 (res_unlock e w2 a z.2.1 z.1 rs)⟩
      · obtain ⟨h1, h2⟩ := aft_unlock g e w2 pr a z.1
        exact ⟨h1, z.2 _ _ h2⟩
      · obtain ⟨h1, h2⟩ := aft_unlock g e w2 pr a z.1
        exact ⟨h1, z.2 _ _ h2⟩
    · exact q.elim
  · unfold tsLock at q ⊢
    split at q
    · exact h.mono _ _ _ ⟨fun Γ z => unl_mono (fun Γ => le.nx Γ) z, fun r Γ (z : isBw r = false ∧ _) => ⟨z.1, unl_mono (fun Γ => le.rt r Γ) z.2⟩, fun Γ z => unl_mono (fun Γ => le.bk Γ) z, fun Γ z => unl_mono (fun Γ => le.ct Γ) z, fun _ _ z => False.elim z⟩ q
    · exact q
theorem pd_lockE (i : Nat) (h : PD X e te) : PD X e (tdLock i te) := by
  refine ⟨PE.imp (pe_lock h.run) fun σ H Q ⟨Γ, g, q⟩ => ?_, fun Γ Q Q' hq q => ?_⟩
  · unfold tdLock at q
    split at q
    · rename_i p kvs e
      obtain ⟨w1, vs, w2, pr⟩ := g.ow _ _ _ e
      refine ⟨p, _, w2, trivial, fun od => ⟨_, (rg_lock g e w2 pr).rg, h.mono _ _ _ (fun r Γ' z v H' a rs => ?_) q⟩⟩
      obtain ⟨h1, h2⟩ := aft_unlock g e w2 pr a z.2.1
      exact ⟨h1, z.2.2 v _ h2 (res_unlock e w2 a z.2.1 z.1 rs)⟩
    · exact q.elim
  · unfold tdLock at q ⊢
    split at q
    · exact h.mono _ _ _ (fun r Γ' z => ⟨z.1, unl_mono (fun Γ => hq r Γ) z.2⟩) q
    · exact q
variable {tg : Expr}
def tiKeysT (t : TD) : TID := fun Γ Q => t Γ fun r Γ1 => match r with
  | .bw i => (match Γ1[i]? with
    | some (.ow _ (.dR kvs)) => kvs.length ≤ sizeLine ∧ Q (kvs.map fun q => tI q.1) none Γ1
    | _ => False)
  | _ => False
theorem pid_keysT (he : PD X e te) : PID X tg e (tiKeysT te) := by
  refine ⟨PI.imp (pi_keys he.run) fun σ H R ⟨Γ, g, q⟩ => ⟨Γ, g, he.mono _ _ _ (fun r Γ1 q => ?_) q⟩, fun Γ Q Q' h => he.mono _ _ _ fun r Γ1 q => ?_⟩
  · intro v H1 a1 r1
    split at q
    · split at q
      · rename_i i _ p kvs e1
        obtain ⟨w1, o, vs, w2, pr⟩ := a1.rg.ow _ _ _ e1
        have ev := (show σ[i]? = some (some v) from r1).symm.trans w1
        cases ev
        refine ⟨p, o, rfl, .inr ⟨vs, w2, ?_⟩⟩
        refine q.2 (Itkt p o vs) H1 (fun H => H p = some (.frz o (.dT vs))) a1 ⟨fun i H h hi => ⟨h, ?_⟩, fun i d H x H' h e y => ?_, fun H h => ⟨h, ?_⟩, by rw [List.length_map]; exact q.1⟩ fun H2 σ2 Γ2 im _ _ => im _ _ w2 (fun z => z)
        · rw [pr.len]; rw [List.length_map] at hi; exact hi
        · obtain ⟨rfl, k, u, b, e2, rfl, hb⟩ := y
          refine ⟨same_refl _, ?_⟩
          obtain ⟨q', e3, rfl⟩ := map_at e
          have e4 : (vs.map (·.1))[i]? = some k := by rw [List.getElem?_map, e2]; rfl
          rw [pr.keys, List.getElem?_map, e3] at e4
          cases e4
          rw [kT_kV] at hb
          exact ⟨b, _, rfl, hb, Reps.of_ints _⟩
        · rw [List.length_map, pr.len]
          exact Nat.le_refl _
      · exact q.elim
    · exact q.elim
  · split at q
    · split at q
      · exact ⟨q.1, h _ _ _ q.2⟩
      · exact q
    · exact q
end
end DL
/-! DL18: dict comprehensions whose keys are tuples of ints. -/
namespace DL
open PySem PySem.Spec PyProof.Rows L2
theorem put_inv {X : Cx} {pins : List (Addr × Obj)} {σ : Sl} {H : Hp} {s : Shared} {E : Value → Shared → Prop} {C b : Addr} {kvs : List (List Key × V)} {k : List Key} {z : V} {r : Value} {Q : Unit → Shared → Prop} (hu : X.A.units + 1 < cLine) (I : Inv X pins σ H s)
    (hC : H C = some (.dT kvs)) (hl : kvs.length < sizeLine) (hk : H b = some (.tup (k.map kV))) (rz : RelV z r) (go : ∀ s', Inv X pins σ (upd H C (.dT (putK kvs k z))) s' → Q () s') : wpAny (model X.prog X.w) X.A (dictSet C (.ref b) r) Q E s := by
  obtain ⟨zl, nd, xs, rel, dd⟩ := dt_of I.hok hC
  have hx : xs.length ≤ sizeLine := by rw [← Paired.length rel]; exact zl
  have hpl : (putK kvs k z).length ≤ sizeLine := Nat.le_trans (length_putK kvs k z) hl
  refine wpAny_dictSet_heap (hsz := hx) (show X.A.units < cLine by omega) (key_of I.hok hk) dd fun h' dd' sb => go _ ?_
  obtain ⟨q, es, ep, hq, g2, g3, g4, _, g5⟩ := dd'
  refine d_write I (by rw [hC]; exact True.intro) sb ⟨q, hq⟩ ⟨hpl, nd, _, (rel.put k hk rz).keeps fun c ys ec => ?_, q, es, ep, hq, g2, g3, g4, g5⟩
  exact (upd_ne (ne_of ec hC fun y => nomatch y)).trans ec
section
variable {X : Cx}
/-- {key: value for target in iter if ..}: C the new dict -/
def tDcT (wi : TI) (g : TG) (tt : TT) (tk te : TE) (vs : List Nat) : TE := fun σ H Q => wi σ H fun J H1 => ∀ C, H1 C = none → ∃ W : Nat → Nat → Hp → Prop,
  (∃ m, W 0 m (upd H1 C (.dT []))) ∧ ∀ i m H, W i m H → (J.stop i H ∧ Q (.ref C) H) ∨ (J.go i H ∧ ∃ Nx : Hp → Prop, (∀ H', Nx H' → ∃ m', m' < m ∧ W (i + 1) m' H') ∧
    ∀ x H', J.yld i H x H' → g x (wipe σ vs) H' fun σ2 H2 => wipe σ2 vs = wipe σ vs ∧ tt σ2 H2 fun b H3 => if b = true then tk σ2 H3 fun y H4 => te σ2 H4 fun z H5 => ∃ (kvs : List (List Key × V)) (k : List Key) (b : Addr), y = .ref b ∧ H5 b = some (.tup (k.map kV)) ∧ H5 C = some (.dT kvs) ∧ kvs.length < sizeLine ∧
      Nx (upd H5 C (.dT (putK kvs k z))) else Nx H3)
theorem dcT_core {pins : List (Addr × Obj)} {s : Shared} {σ : Sl} {H : Hp} {Q : VK} {kx elt tg iter : Expr} {ifs : List Expr} {scope : Scope} {own : List (Str × Nat)} {pos pos' : Pos} {wi : TI} {g : TG} {tt : TT} {tk te : TE} {use : Option (Value → Sem Unit)} {Qf : Value → Shared → Prop} (hu : X.A.units + 1 < cLine) (hc : X.calm = true) (hN : X.N.Nodup) (I : Inv X pins σ H s) (hi : PI X tg iter wi) (ok : BlkOk X.N X.env.scope scope own)
    (hg : ∀ (s : Shared) (H : Hp) (C : Addr) (cl : List (Str × Addr)) (fp : List Addr), PG (X.blk s H scope (compEnvC scope cl C X.env) fp) tg g)
    (ht : ∀ (s : Shared) (H : Hp) (C : Addr) (cl : List (Str × Addr)) (fp : List Addr), PTs (X.blk s H scope (compEnvC scope cl C X.env) fp) ifs tt)
    (hk : ∀ (s : Shared) (H : Hp) (C : Addr) (cl : List (Str × Addr)) (fp : List Addr), PE (X.blk s H scope (compEnvC scope cl C X.env) fp) kx tk)
    (he : ∀ (s : Shared) (H : Hp) (C : Addr) (cl : List (Str × Addr)) (fp : List Addr), PE (X.blk s H scope (compEnvC scope cl C X.env) fp) elt te)
    (hs : ∀ x, foldedSetIterable iter X.env x = pure x) (h : tDcT wi g tt tk te (own.map (·.2)) σ H Q)
    (fine : ∀ D C s' m H', Inv X pins σ H' s' → Q (.ref D) H' → s'.heap.Ns C m → FpOk X pins H' C → compPost (model X.prog X.w) X.A X.xe use Qf (.ref D) C (.ok .next) s') :
    wpAny (model X.prog X.w) X.A (comprehension (.DictComp kx elt [⟨tg, iter, ifs, 0⟩] scope pos) scope X.env pos' newDict false (eval iter X.env) use) Qf X.xe s := by
  have fr : ∀ y ∈ scope.names, y.2 = .free → ∃ c, X.env.cells.lookup y.1 = some c := by
    intro y hy e
    rcases ok.free y hy e with k | k
    · exact I.ok.has _ (.inl k)
    · exact I.ok.has _ (.inr k)
  refine wpAny_comprehension_free (use := use) rfl hs (closure_ok fr) ok.kind (fun y hy e => ?_) ?_
  · rw [ok.uniq y hy, e]
  refine thn (hi.run pins s σ H _ I h) fun xv s1 hx => thn hx fun itv s2 h2 => ?_
  obtain ⟨it, fp, tn, J, H2, e, I2, T, st2, f2, q⟩ := h2
  subst e
  refine wpAny_newObj_type (newEnv_comp ?_)
  generalize hC : s2.heap.objs.size = C
  have Cn : H2 C = none := I2.hok.fresh (Nat.le_of_eq hC)
  obtain ⟨W, ⟨m0, w0⟩, turn⟩ := q C Cn
  let hS : Heap := s2.heap.push { cls := .type "dict", data := .dict #[] }
  let s3 : Shared := { s2 with heap := hS }
  let H3 : Hp := upd H2 C (.dT [])
  have I3 : Inv X pins σ H3 s3 := by
    refine I2.laid (t' := s2.toks) (fun b o z => Heap.get?_push_of_some _ z) (Nat.le_of_eq hC) ?_
    rw [← hC]
    exact dt_empty s2.heap I2.big
  have ltf : ∀ b ∈ fp, b < s2.heap.objs.size := by
    intro b hb
    obtain ⟨o, z, _⟩ := T.obj _ _ st2 b hb
    exact Heap.lt_size z
  have nC : ∀ b ∈ fp, b ≠ C := fun b hb => by rw [← hC]; exact Nat.ne_of_lt (ltf b hb)
  have f3 : ∀ b ∈ fp, FpOk X pins H3 b ∧ b < s3.heap.objs.size := by
    intro b hb
    refine ⟨⟨?_, (f2 b hb).2⟩, ?_⟩
    · show upd H2 C _ b = none
      rw [upd_ne (nC b hb)]
      exact (f2 b hb).1
    · show b < (s2.heap.push _).objs.size
      rw [Heap.size_push]
      exact Nat.lt_succ_of_lt (ltf b hb)
  have st3 : tn 0 s3.heap := T.keep _ _ _ st2 fun b _ o z => Heap.get?_push_of_some _ z
  have I4 := block_start I3 ok hN f3
  let cl := cellsFrom (s3.heap.objs.size + 1) scope.names (cloFrom X.env.cells scope.names [])
  let ce := compEnvC scope cl s3.heap.objs.size X.env
  let B := X.blk s3 H3 scope ce fp
  have pg : PG B tg g := hg s3 H3 s3.heap.objs.size cl fp
  have pt : PTs B ifs tt := ht s3 H3 s3.heap.objs.size cl fp
  have pk : PE B kx tk := hk s3 H3 s3.heap.objs.size cl fp
  have pe : PE B elt te := he s3 H3 s3.heap.objs.size cl fp
  let s4 : Shared := { s3 with heap := pushCells (s3.heap.push { cls := .type "dict", data := .dict #[] }) scope.names }
  have st4 : tn 0 s4.heap := T.keep _ _ _ st3 fun b _ o z => pushCells_keeps _ _ _ _ (Heap.get?_push_of_some _ z)
  have stat : ∀ {σ' : L2.St} {H' : Hp} {s' : Shared}, Inv B [] σ' H' s' → (∀ b ∈ fp, H' b = none) → ∀ b ∈ fp, FpOk B [] H' b := by
    intro σ' H' s' I' n b hb
    refine ⟨n b hb, (I'.ok.exf b hb).1, I'.ok.exfs b hb, .inl hb, fun x c z => (I'.ok.exf b hb).2 x c z, fun p hp => ?_⟩
    exact absurd (show p ∈ ([] : List (Addr × Obj)) ++ [] from hp) (by simp)
  show codeAny _ _ (.compStart (.DictComp kx elt [⟨tg, iter, ifs, 0⟩] scope pos) 0 (.ref it) (.ref C) ce) (compPost (model X.prog X.w) X.A X.xe use Qf (.ref C) s3.heap.objs.size) s4
  have loop : codeAny (model X.prog X.w) X.A (.compLoop (.DictComp kx elt [⟨tg, iter, ifs, 0⟩] scope pos) 0 (.ref it) (.ref C) ce) (compPost (model X.prog X.w) X.A X.xe use Qf (.ref C) s3.heap.objs.size) s4 := by
    refine compLoop_anyD (fun n s' => ∃ i H', Inv B [] (wipe σ (own.map (·.2))) H' s' ∧ tn i s'.heap ∧ (∀ b ∈ fp, H' b = none) ∧ W i n H') ?_ m0 ⟨0, H3, I4, st4, fun b hb => (f3 b hb).1.1, w0⟩
    rintro n s5 ⟨i, H5, I5, st5, n5, w5⟩
    rcases turn i n H5 w5 with ⟨stop, qq⟩ | ⟨go, Nx, hNx, step⟩
    · refine thnF (T.done B rfl rfl rfl hc i [] s5 _ H5 (fun _ _ => False) I5 (stat I5 n5) st5 stop) fun r s6 ⟨hr, I6⟩ => ?_
      subst hr
      have I7 : Inv X pins σ H5 s6 := I3.call' (ch := fp) I6.os I6.base I6.hok I6.bare fun b hb => by
        have z := (f3 b hb).1.2
        exact ⟨z.2.2.1, z.1, z.2.2.2.1, z.2.2.2.2⟩
      have nL : H5 s3.heap.objs.size = none := I6.free
      obtain ⟨m, hn, _⟩ := I6.loc
      exact fine C s3.heap.objs.size s6 m H5 I7 qq hn (I3.fpOk (Nat.le_refl s3.heap.objs.size) nL)
    · refine thnF (T.item B rfl rfl rfl hc i [] s5 _ H5 (fun _ _ => False) I5 (stat I5 n5) st5 go) fun r s6 ⟨u, hr, h6⟩ => ?_
      subst hr
      refine thnF h6 fun _ s7 ⟨x, H7, I7, r7, y7, st7, n7⟩ => ?_
      have P7 := I7.pinned (stat I7 n7) (T.obj _ _ st7)
      refine thnF (pg.run _ s7 _ H7 x u _ P7 r7 (step x H7 y7)) fun _ s8 ⟨σ8, H8, I8, hw8, q8⟩ => ?_
      refine thnF (pt.run _ s8 σ8 H8 _ I8 q8) fun b s9 ⟨H9, I9, q9⟩ => ?_
      have fin : ∀ {s' : Shared} {H' : Hp}, Inv B ([] ++ pinsAt fp s7.heap) σ8 H' s' → Nx H' → ∃ m, m < n ∧ ∃ i H', Inv B [] (wipe σ (own.map (·.2))) H' s' ∧ tn i s'.heap ∧ (∀ b ∈ fp, H' b = none) ∧ W i m H' := by
        intro s' H' I' nx
        obtain ⟨m', hm, w'⟩ := hNx H' nx
        have pin : ∀ b ∈ fp, ∀ o, s7.heap.get? b = some o → s'.heap.get? b = some o ∧ H' b = none := by
          intro b hb o z
          have y := I'.pin (b, o) (List.mem_append_right _ (List.mem_append_right _ (mem_pinsAt hb z)))
          exact ⟨y.1, y.2.1⟩
        refine ⟨m', hm, i + 1, H', (I'.unpinned (pins := [])).weak ?_ (fun j v z => ?_), T.keep _ _ _ st7 fun b hb o z => (pin b hb o z).1, fun b hb => ?_, w'⟩
        · rw [← hw8, wipe_length]
        · rw [← hw8] at z
          exact (wipe_some z).1
        · obtain ⟨o, z, _⟩ := T.obj _ _ st7 b hb
          exact (pin b hb o z).2
      cases b with
      | false =>
        simp only [Bool.false_eq_true, if_false] at q9 ⊢
        exact fin I9 q9
      | true =>
        simp only [if_true] at q9 ⊢
        refine thnF (pk.run _ s9 σ8 H9 _ I9 q9) fun kk s10 ⟨yk, H10, I10, r10, q10⟩ => ?_
        refine thnF (pe.run _ s10 σ8 H10 _ I10 q10) fun z s11 ⟨yv, H11, I11, r11, kvs, k, b', ey, hb', hD11, hz11, nx⟩ => ?_
        subst ey
        cases (show kk = Value.ref b' from r10)
        exact put_inv (X := B) hu I11 hD11 hz11 hb' r11 fun s12 I12 => fin I12 nx
  exact codeAny_compStart_dict loop (T.self X.A 0 _ _ _ st4 loop)
theorem pe_dcT {kx elt tg iter : Expr} {ifs : List Expr} {scope : Scope} {own : List (Str × Nat)} {pos : Pos} {wi : TI} {g : TG} {tt : TT} {tk te : TE} (hu : X.A.units + 1 < cLine) (hc : X.calm = true) (hN : X.N.Nodup) (hi : PI X tg iter wi) (ok : BlkOk X.N X.env.scope scope own)
    (hg : ∀ (s : Shared) (H : Hp) (C : Addr) (cl : List (Str × Addr)) (fp : List Addr), PG (X.blk s H scope (compEnvC scope cl C X.env) fp) tg g)
    (ht : ∀ (s : Shared) (H : Hp) (C : Addr) (cl : List (Str × Addr)) (fp : List Addr), PTs (X.blk s H scope (compEnvC scope cl C X.env) fp) ifs tt)
    (hk : ∀ (s : Shared) (H : Hp) (C : Addr) (cl : List (Str × Addr)) (fp : List Addr), PE (X.blk s H scope (compEnvC scope cl C X.env) fp) kx tk)
    (he : ∀ (s : Shared) (H : Hp) (C : Addr) (cl : List (Str × Addr)) (fp : List Addr), PE (X.blk s H scope (compEnvC scope cl C X.env) fp) elt te)
    (hs : ∀ x, foldedSetIterable iter X.env x = pure x := by intro _; rfl) : PE X (.DictComp kx elt [⟨tg, iter, ifs, 0⟩] scope pos) (tDcT wi g tt tk te (own.map (·.2))) := by
  refine ⟨fun pins s σ H Q I h => ?_⟩
  rw [arm_eval_DictComp]
  refine dcT_core hu hc hN I hi ok hg ht hk he hs h fun D C s' m H' I' q hn f => ?_
  refine ⟨m, hn, fun h'' sb => ⟨.ref D, H', I'.turned (t' := s'.toks) (fun b o hb z => ?_) f.1 f.2.1 f.2.2.2.1 f.2.2.2.2.1 f.2.2.2.2.2, rfl, q⟩⟩
  exact (sb.2 b hb).trans z
theorem swD_true {kx vx : Expr} {gs : List Comprehension} {scope : Scope} {pos py : Pos} {y : Str} {l : Nat} {env : Env} (hk : env.scope.kind = .function) (hy : env.scope.names.lookup y = some .local) (hl : (py.line == pos.line) = true)
    (ha : (scope.names.any fun (n, k) => n == y && (k == .local || k == .cell)) = false) : swapsWith (.DictComp kx vx gs scope pos) (some (.Name y py)) l env = pure true := by
  have e1 : env.kindOf y = some .local := hy
  have e2 : env.blockKind = .function := by unfold Env.blockKind; rw [hk]; rfl
  unfold swapsWith
  simp only [e2, e1, ha, Expr.pos, hl]
  rfl
theorem ps_setDcT {i : Nat} {y : Str} {py : Pos} {kx elt tg iter : Expr} {ifs : List Expr} {scope : Scope} {own : List (Str × Nat)} {pos spos : Pos} {wi : TI} {g : TG} {tt : TT} {tk te : TE} (hu : X.A.units + 1 < cLine) (hc : X.calm = true) (hN : X.N.Nodup) (hy : X.N[i]? = some y) (hyl : X.env.scope.names.lookup y = some .local)
    (hsw : swapsWith (.DictComp kx elt [⟨tg, iter, ifs, 0⟩] scope pos) (some (.Name y py)) spos.line X.env = pure true) (hi : PI X tg iter wi) (ok : BlkOk X.N X.env.scope scope own)
    (hg : ∀ (s : Shared) (H : Hp) (C : Addr) (cl : List (Str × Addr)) (fp : List Addr), PG (X.blk s H scope (compEnvC scope cl C X.env) fp) tg g)
    (ht : ∀ (s : Shared) (H : Hp) (C : Addr) (cl : List (Str × Addr)) (fp : List Addr), PTs (X.blk s H scope (compEnvC scope cl C X.env) fp) ifs tt)
    (hk : ∀ (s : Shared) (H : Hp) (C : Addr) (cl : List (Str × Addr)) (fp : List Addr), PE (X.blk s H scope (compEnvC scope cl C X.env) fp) kx tk)
    (he : ∀ (s : Shared) (H : Hp) (C : Addr) (cl : List (Str × Addr)) (fp : List Addr), PE (X.blk s H scope (compEnvC scope cl C X.env) fp) elt te) (hs : ∀ x, foldedSetIterable iter X.env x = pure x := by intro _; rfl) :
    PS X (.Assign [.Name y py] (.DictComp kx elt [⟨tg, iter, ifs, 0⟩] scope pos) spos) (tAsg (tDcT wi g tt tk te (own.map (·.2))) (gName i)) := by
  refine ⟨fun pins s σ H D I h => ?_⟩
  rw [exec_Assign_Name_used _ _ _ _ hsw]
  refine wpAny_bind (wpAny_standAt (wpAny_bind ?_))
  show wpAny _ X.A (do let _ ← comprehension (.DictComp kx elt [⟨tg, iter, ifs, 0⟩] scope pos) scope X.env (firstIterPos [⟨tg, iter, ifs, 0⟩] pos) newDict false (eval iter X.env) (some (assign (.Name y py) X.env))) _ _ s
  have h1 : tDcT wi g tt tk te (own.map (·.2)) σ H (fun x H1 => gName i x σ H1 D.nx) := h
  refine wpAny_bind (thn (dcT_core (Qf := fun _ s' => SP X pins D .next s') hu hc hN I hi ok hg ht hk he hs h1 fun L C s' m H' I' q hn f => ?_) fun _ s' hq => wpAny_pure (wpAny_pure hq))
  show wpAny _ _ (assign (.Name y py) X.env (.ref L)) _ _ _
  refine wpAny_assign_Name (store_ok2 (v := V.ref L) I' hN hy (.inl hyl) rfl (fun s2 I2 ⟨a, sb, ha⟩ => ?_) (.inr hyl))
  have haC : C ≠ a := by
    rcases ha with z | z
    · rw [z]; exact f.2.1
    · exact fun e => f.2.2.2.2.1 y a z e.symm
  refine ⟨m, hn.sameBut sb haC, fun h3 sb3 => ⟨_, H', I2.turned (t' := s2.toks) (fun b o hb z => ?_) f.1 f.2.1 f.2.2.2.1 f.2.2.2.2.1 f.2.2.2.2.2, q⟩⟩
  exact (sb3.2 b hb).trans z
end
/-! ### over data -/
structure MonoDc (tg : TGD) (tt : TB) (tk te : TD) : Prop where
  mg : ∀ d Γ (Q Q' : G → Prop), (∀ Γ', Q Γ' → Q' Γ') → tg d Γ Q → tg d Γ Q'
  mt : MonoB tt
  mx : Mono tk
  me : Mono te
structure DcR (ds : List D) (lk : Lk) (Γ1 : G) (tg : TGD) (tt : TB) (tk te : TD) (vs : List Nat) (Q : SV → G → Prop) : Prop where
  out : ∃ inv : List D → List D → List (List Int × D) → G → Prop, inv [] ds [] (wipeD Γ1 vs) ∧
    (∀ done rest acc Γ, done ++ rest = ds → inv done rest acc Γ → lkOk lk Γ ∧ acc.length ≤ done.length) ∧
    (∀ done d rest acc Γ, done ++ d :: rest = ds → inv done (d :: rest) acc Γ → tg d Γ fun Γ2 => tt Γ2 fun b Γ3 => Br b (tk Γ3 fun y Γ4 => te Γ4 fun r Γ5 => ∃ (k : List Int) (x : D), y = .fz (tI k) ∧ r = .fz x ∧ inv (done ++ [d]) rest (dtPut acc k x) (wipeD Γ5 vs)) (inv (done ++ [d]) rest acc (wipeD Γ3 vs))) ∧
    ∀ acc Γ, inv ds [] acc Γ → ∀ p, Q (.ow p (.dT acc)) (unwipe Γ Γ1 vs)
def tdDc (ti : TID) (tg : TGD) (tt : TB) (tk te : TD) (vs : List Nat) : TD := fun Γ Q => ti Γ fun ds lk Γ1 => MonoDc tg tt tk te → DcR ds lk Γ1 tg tt tk te vs Q
theorem tdDc_ok {K : PySem.W.Frag} {ti : TID} {tgd : TGD} {tt : TB} {tk te : TD} {vs : List Nat} (mi : MonoI ti) (mg : ∀ d Γ (Q Q' : G → Prop), (∀ Γ', Q Γ' → Q' Γ') → tgd d Γ Q → tgd d Γ Q') (mt : MonoB tt) (mk : Mono tk) (me : Mono te)
    {σ : Sl} {H : Hp} {Q : VK} (q : lift K (tdDc ti tgd tt tk te vs) σ H Q) :
    tDcT (liftI K ti) (fun v σ H Q => ∃ Γ d, RG K H σ Γ ∧ Rep K H d v ∧ tgd d Γ fun Γ' => ∀ σ', Aft K H Γ H σ' Γ' → wipe σ' vs = wipe σ vs → Q σ' H) (liftB K tt) (lift K tk) (lift K te) vs σ H Q := by
  obtain ⟨Γ, g0, q⟩ := q
  refine ⟨Γ, g0, mi _ _ _ (fun ds lk Γ1 q J H1 St a1 src stb l hl => ?_) q⟩
  obtain ⟨inv, i0, il, turn, last⟩ := (q ⟨mg, mt, mk, me⟩).out
  have g1 := a1.rg
  have gw := rg_wipe (vs := vs) g1
  have s1 : Same H1 (upd H1 l (.dT [])) := same_upd hl
  have b0 : Aft K H1 (wipeD Γ1 vs) (upd H1 l (.dT [])) (wipe σ vs) (wipeD Γ1 vs) := Aft.same gw s1
  refine ⟨fun i m H' => ∃ done rest acc Γ' ws, done ++ rest = ds ∧ i = done.length ∧ m = rest.length ∧ Aft K H1 (wipeD Γ1 vs) H' (wipe σ vs) Γ' ∧ H' l = some (.dT ws) ∧ PRep K H' kT acc ws ∧ ¬ own Γ' l ∧ inv done rest acc Γ',
    ⟨ds.length, [], ds, [], wipeD Γ1 vs, [], rfl, rfl, rfl, b0, upd_same, rfl, fun z => gw.there z hl, i0⟩, ?_⟩
  rintro i m H2 ⟨done, rest, acc, Γ2, ws, e, rfl, rfl, a2, el, rl, nl, i2⟩
  obtain ⟨il2, hac⟩ := il done rest acc Γ2 e i2
  have st2 : St H2 := stb H2 _ Γ2 (a2.imm gw) a2.rg il2
  cases rest with
  | nil =>
    rw [List.append_nil] at e
    subst e
    obtain ⟨a3, ow3⟩ := aft_unwipe g1 a2
    refine .inl ⟨src.stop H2 st2, last acc Γ2 i2 l (.ref l) H2 (a1.trans g0 a3) ⟨rfl, ⟨ws, el, rl⟩, fp1 rfl fun z => ?_, fp1 rfl (a1.fresh (.inr hl))⟩⟩
    rcases ow3 l z with z | z
    · exact nl z
    · exact g1.there z hl
  | cons d rest =>
    have ed : ds[done.length]? = some d := by
      rw [← e, List.getElem?_append_right (Nat.le_refl _), Nat.sub_self]
      rfl
    have hlt : done.length < ds.length := by rw [← e, List.length_append, List.length_cons]; omega
    refine .inr ⟨src.go _ H2 st2 hlt, fun H' => ∃ acc' Γ' ws', Aft K H1 (wipeD Γ1 vs) H' (wipe σ vs) Γ' ∧ H' l = some (.dT ws') ∧ PRep K H' kT acc' ws' ∧ ¬ own Γ' l ∧ inv (done ++ [d]) rest acc' Γ', fun H' ⟨acc', Γ', ws', z2, z3, z4, z5, z6⟩ => ⟨rest.length, by simp, done ++ [d], rest, acc', Γ', ws', by rw [← e]; simp, by simp, rfl, z2, z3, z4, z5, z6⟩, fun x H3 y => ?_⟩
    obtain ⟨sm, rx⟩ := src.yld _ d H2 x H3 st2 ed y
    have a3 := Aft.same a2.rg sm
    have a13 := a2.trans gw a3
    have keepl : ∀ {H H' : Hp} {σ' σ'' : Sl} {Γ Γ' : G} {us : HO} [NT us], RG K H σ'' Γ → Aft K H Γ H' σ' Γ' → H l = some us → ¬ own Γ l → H' l = some us ∧ ¬ own Γ' l := fun {H H' σ' σ'' Γ Γ' us} _ g a e n => by
      refine ⟨a.keep _ _ e n, fun z => ?_⟩
      rcases a.sh l z with z | z
      · exact n z
      · rw [e] at z; cases z
    refine ⟨Γ2, d, a3.rg, rx, mg _ _ _ _ (fun Γ4 q σ4 a4 hw => ?_) (turn done d rest acc Γ2 e i2)⟩
    refine ⟨hw.trans (wipe_wipe σ vs), Γ4, a4.rg, mt _ _ _ (fun b Γ5 q H5 a5 => ?_) q⟩
    obtain ⟨l3, n3⟩ := keepl a2.rg a3 el nl
    obtain ⟨l4, n4⟩ := keepl a3.rg a4 l3 n3
    obtain ⟨l5, n5⟩ := keepl a4.rg a5 l4 n4
    have im5 : Imm H2 H5 := ((imm_same sm).trans (a4.imm a3.rg)).trans (a5.imm a4.rg)
    have wiped : ∀ {H' : Hp} {Γ' : G}, Aft K H1 (wipeD Γ1 vs) H' σ4 Γ' → Aft K H1 (wipeD Γ1 vs) H' (wipe σ vs) (wipeD Γ' vs) := fun {H' Γ'} a => by
      refine ⟨a.keep, ?_, fun c z => a.sh c (own_wipe z), a.im⟩
      have := rg_wipe (vs := vs) a.rg
      rw [hw, wipe_wipe] at this
      exact this
    have a15 := (a13.trans gw a4).trans gw a5
    rw [br_iff] at q
    split at q
    · rename_i eb
      rw [if_pos eb]
      refine ⟨Γ5, a5.rg, mk _ _ _ (fun y' Γ6 q vk H6 a6 r6 => ?_) q⟩
      refine ⟨Γ6, a6.rg, me _ _ _ (fun r Γ7 q v H7 a7 r7 => ?_) q⟩
      obtain ⟨k, x', rfl, rfl, i7⟩ := q
      obtain ⟨l6, n6⟩ := keepl a5.rg a6 l5 n5
      obtain ⟨l7, n7⟩ := keepl a6.rg a7 l6 n6
      have im7 := (im5.trans (a6.imm a5.rg)).trans (a7.imm a6.rg)
      obtain ⟨b', rfl, hb'⟩ := key_at (.inr (Rep.imm r6 (a7.imm a6.rg)))
      have mu : MuL (H7 l) := by rw [l7]; trivial
      have im8 : Imm H7 (upd H7 l (.dT (putK ws (kT k) v))) := Imm.upd (.inr mu)
      have hlen : ws.length < sizeLine := by rw [rl.len]; exact Nat.lt_of_lt_of_le (Nat.lt_of_le_of_lt hac hlt) src.le
      refine ⟨ws, kT k, b', rfl, hb', l7, hlen, dtPut acc k x', wipeD Γ7 vs, _, ?_, upd_same, ((rl.imm im7).put (fun _ _ => kT_inj) r7).imm im8, fun z => n7 (own_wipe z), i7⟩
      have a17 := wiped ((a15.trans gw a6).trans gw a7)
      refine ⟨fun c u z1 z2 => ?_, ?_, a17.sh, a17.im.trans im8⟩
      · have nc : c ≠ l := fun z => by rw [z, hl] at z1; cases z1
        rw [upd_ne nc]
        intro _
        exact a17.keep c u z1 z2
      · have g7 := a17.rg
        refine ⟨g7.len, fun j dd z => ?_, fun j p o z => ?_, g7.raw, g7.one, g7.tbm im8⟩
        · obtain ⟨w, w1, w2⟩ := g7.fz _ _ z
          exact ⟨w, w1, w2.imm im8⟩
        · obtain ⟨w1, w2⟩ := g7.ow _ _ _ z
          exact ⟨w1, w2.keep (fun a ha u => keep_upd a u fun y => n7 (by rw [← y]; exact own_wipe (own_mk z ha))) im8⟩
    · rename_i eb
      rw [if_neg eb]
      exact ⟨acc, wipeD Γ5 vs, ws, wiped a15, l5, rl.imm im5, fun z => n5 (own_wipe z), q⟩
section
variable {X : Cx} {tg iter kx elt : Expr} {pos : Pos} {ti : TID} {tgd : TGD} {tt : TB} {tk te : TD} {ifs : List Expr} {scope : Scope}
theorem tdDc_mono {vs : List Nat} (mi : MonoI ti) (mg : ∀ d Γ (Q Q' : G → Prop), (∀ Γ', Q Γ' → Q' Γ') → tgd d Γ Q → tgd d Γ Q') (mt : MonoB tt) (mk : Mono tk) (me : Mono te) : Mono (tdDc ti tgd tt tk te vs) := fun Γ Q Q' hq =>
  mi _ _ _ fun ds lk Γ1 q mc => let ⟨inv, i0, il, turn, last⟩ := (q mc).out; ⟨inv, i0, il, turn, fun acc Γ2 i2 p => hq _ _ (last acc Γ2 i2 p)⟩
theorem pd_dc (own : List (Str × Nat)) (hu : X.A.units + 64 < cLine) (hc : X.calm = true) (hN : X.N.Nodup) (hi : PID X tg iter ti) (ok : BlkOk X.N X.env.scope scope own) (hg : ∀ (s : Shared) (H : Hp) (C : Addr) (cl : List (Str × Addr)) (fp : List Addr), PGC (X.blk s H scope (compEnvC scope cl C X.env) fp) tg (own.map (·.2)) tgd)
    (ht : ∀ (s : Shared) (H : Hp) (C : Addr) (cl : List (Str × Addr)) (fp : List Addr), PBs (X.blk s H scope (compEnvC scope cl C X.env) fp) ifs tt) (hk : ∀ (s : Shared) (H : Hp) (C : Addr) (cl : List (Str × Addr)) (fp : List Addr), PD (X.blk s H scope (compEnvC scope cl C X.env) fp) kx tk)
    (he : ∀ (s : Shared) (H : Hp) (C : Addr) (cl : List (Str × Addr)) (fp : List Addr), PD (X.blk s H scope (compEnvC scope cl C X.env) fp) elt te)
    (hs : ∀ x, foldedSetIterable iter X.env x = pure x := by intro _; rfl) : PD X (.DictComp kx elt [⟨tg, iter, ifs, 0⟩] scope pos) (tdDc ti tgd tt tk te (own.map (·.2))) := by
  have h0 := hg X.s_0 X.H_0 0 [] []
  have h1 := ht X.s_0 X.H_0 0 [] []
  have h2 := hk X.s_0 X.H_0 0 [] []
  have h3 := he X.s_0 X.H_0 0 [] []
  exact ⟨PE.imp (pe_dcT (by omega) hc hN hi.run ok (fun s H C cl fp => (hg s H C cl fp).run) (fun s H C cl fp => (ht s H C cl fp).run) (fun s H C cl fp => (hk s H C cl fp).run) (fun s H C cl fp => (he s H C cl fp).run) hs) fun σ H Q q => tdDc_ok hi.mono h0.mono h1.mono h2.mono h3.mono q, tdDc_mono hi.mono h0.mono h1.mono h2.mono h3.mono⟩
theorem pd_setDc (i : Nat) (own : List (Str × Nat)) {y : Str} {py spos : Pos} (hu : X.A.units + 64 < cLine) (hc : X.calm = true) (hN : X.N.Nodup) (hi : PID X tg iter ti) (ok : BlkOk X.N X.env.scope scope own) (hg : ∀ (s : Shared) (H : Hp) (C : Addr) (cl : List (Str × Addr)) (fp : List Addr), PGC (X.blk s H scope (compEnvC scope cl C X.env) fp) tg (own.map (·.2)) tgd)
    (ht : ∀ (s : Shared) (H : Hp) (C : Addr) (cl : List (Str × Addr)) (fp : List Addr), PBs (X.blk s H scope (compEnvC scope cl C X.env) fp) ifs tt) (hk : ∀ (s : Shared) (H : Hp) (C : Addr) (cl : List (Str × Addr)) (fp : List Addr), PD (X.blk s H scope (compEnvC scope cl C X.env) fp) kx tk)
    (he : ∀ (s : Shared) (H : Hp) (C : Addr) (cl : List (Str × Addr)) (fp : List Addr), PD (X.blk s H scope (compEnvC scope cl C X.env) fp) elt te)
    (hsw : swapsWith (.DictComp kx elt [⟨tg, iter, ifs, 0⟩] scope pos) (some (.Name y py)) spos.line X.env = pure true := by first | rfl | exact swD_true rfl rfl rfl (by decide +kernel)) (hy : X.N[i]? = some y := by rfl) (hyl : X.env.scope.names.lookup y = some .local := by rfl)
    (hs : ∀ x, foldedSetIterable iter X.env x = pure x := by intro _; rfl) : PDS X (.Assign [.Name y py] (.DictComp kx elt [⟨tg, iter, ifs, 0⟩] scope pos) spos) (tsSet i (tdDc ti tgd tt tk te (own.map (·.2)))) := by
  have h0 := hg X.s_0 X.H_0 0 [] []
  have h1 := ht X.s_0 X.H_0 0 [] []
  have h2 := hk X.s_0 X.H_0 0 [] []
  have h3 := he X.s_0 X.H_0 0 [] []
  have mo := tdDc_mono (vs := own.map (·.2)) hi.mono h0.mono h1.mono h2.mono h3.mono
  refine ⟨fun W tk => PS.imp (ps_setDcT (by omega) hc hN hy hyl hsw hi.run ok (fun s H C cl fp => (hg s H C cl fp).run) (fun s H C cl fp => (ht s H C cl fp).run) (fun s H C cl fp => (hk s H C cl fp).run) (fun s H C cl fp => (he s H C cl fp).run) hs) fun D σ H ⟨Γ, g, q⟩ => tdDc_ok hi.mono h0.mono h1.mono h2.mono h3.mono ⟨Γ, g, mo _ _ _ (fun r Γ' q v H' a rs => ?_) q⟩, fun D D' Γ h => mo _ _ _ fun r Γ' q => ⟨q.1, h.nx _ q.2⟩⟩
  exact q.2 _ H' (aft_set a rs q.1)
end
end DL
/-! DL19: order of data: <, sorted, min, max of tuples. -/
namespace SrtTup
open PySem PySem.W PySem.Calls PyProof.Rows PySem.SeqAt
section
variable {prog : Program} {w : World} {A : Around} {E : Value → Shared → Prop} {s : Shared}
/-- one tuple against another, as keys of one type -/
theorem one_tup {xs ys : List PyData} {a b : Value} {as bs : List Addr} {Q : Bool → Shared → Prop} (ra : Reads s.heap a (.tuple xs) as) (rb : Reads s.heap b (.tuple ys) bs) (hal : alikeAll xs ys = true)
    (hu : A.units + min (PyData.tuple xs).depth (PyData.tuple ys).depth < cLine) (hq : Q (dataLt (.tuple xs) (.tuple ys)) s) : wpAny (model prog w) A (oneLt' true a b) Q E s := by
  cases ra with
  | @tuple l o vs n _ as₁ h1 h2 h3 h4 =>
    cases rb with
    | @tuple l' o' vs' n' _ bs₁ k1 k2 k3 k4 =>
      have n1 : vs.size = xs.length := by simpa using ReadsAll.length _ _ _ h4
      have n2 : vs'.size = ys.length := by simpa using ReadsAll.length _ _ _ k4
      rw [dataLt_tuple, ← firstLt_toks xs ys hal, ← n1, ← n2] at hq
      rw [oneLt'_eq]
      simp only [if_true]
      refine wpAny_bind (wpAny_cRoomFor (room_here hu) ?_)
      obtain ⟨cls, dd, data, sl⟩ := o
      obtain ⟨cls2, dd2, data2, sl2⟩ := o'
      simp only at h2 h3 k2 k3
      subst h2 h3 k2 k3
      refine wpAny_bind (wpAny_callSpecialIfBound?_slot (T := "tuple") ⟨_, h1, rfl⟩ F.slot_tuple_lt ?_)
      refine call_meets F.slot_tuple_lt ⟨_, h1, rfl⟩ F.entry_tuple_lt (F.args_tuple_lt_2 _ _) (tuple_ltAt l l' vs vs' n n' dd dd2 sl sl2 (pairEq xs ys) (fun j => dataLt (xs.getD j .none) (ys.getD j .none))) ⟨h1, k1, fun j j1 j2 => ?_, fun j j1 j2 hj => ?_, ?_⟩
      · have := eqAt_alikeAll xs ys A.in1 s vs.toList vs'.toList _ _ h4 k4 hal (room_in hu) j (by simpa using j1) (by simpa using j2)
        simpa using this
      · have := rcLt_alikeAll xs ys A.in1 s vs.toList vs'.toList _ _ h4 k4 hal (room_in hu) j (by simpa using j1) (by simpa using j2) hj
        simpa using this
      · exact wpAny_truthy_bool hq
/-- the first items of tuples, of empty ones too -/
theorem firsts_at : ∀ (vs : List Value) (ds : List PyData) {Q : List (Option Value) → Shared → Prop}, EachIs (fun v d => ∃ as, Reads s.heap v d as) vs ds → (∀ d ∈ ds, ∃ xs, d = .tuple xs) →
    (∀ os : List (Option Value), EachIs (fun o d => o.isSome = true ↔ d ≠ .tuple []) os ds → Q os s) → wpAny (model prog w) A (vs.mapM firstOfTuple') Q E s
  | [], [], _, _, _, h => by rw [List.mapM_nil]; exact wpAny_pure (h [] .nil)
  | v :: vs, d :: ds, Q, e, ht, h => by
    cases e with
    | cons r t =>
      obtain ⟨as, r⟩ := r
      obtain ⟨xs, rfl⟩ := ht d List.mem_cons_self
      rw [List.mapM_cons]
      refine wpAny_bind ?_
      rw [kas_first_eq]
      cases r with
      | @tuple a o its n _ _ ho hc hd hr =>
        refine wpAny_bind (Looks.here (show Looks (model prog w) s.heap (typeOf (.ref a)) o.cls from (Looks.ld ho).andThen .now) ?_)
        rw [hc, if_neg (by first | decide | simp)]
        refine wpAny_bind (listItems_at ho hd (wpAny_pure ?_))
        refine wpAny_bind (firsts_at vs ds (Q := fun bs s' => wpAny (model prog w) A (pure (its[0]? :: bs)) Q E s') t (fun d hd => ht d (List.mem_cons_of_mem _ hd)) fun os ho => wpAny_pure (h _ (.cons ?_ ho)))
        have hl : its.size = xs.length := by simpa using ReadsAll.length _ _ _ hr
        cases xs with
        | nil =>
          have : its[0]? = none := Array.getElem?_eq_none (by rw [hl]; exact Nat.zero_le _)
          rw [this]
          exact ⟨fun z => (by cases z), fun z => absurd rfl z⟩
        | cons x xs =>
          have hz : 0 < its.size := by rw [hl]; simp
          rw [Array.getElem?_eq_getElem hz]
          exact ⟨fun _ z => (by cases z), fun _ => rfl⟩
  | [], _ :: _, _, e, _, _ => by cases e
  | _ :: _, [], _, e, _, _ => by cases e
/-- tuples of any sizes can be sorted -/
theorem sortsTups {vs : List Value} {ds : List PyData} (e : EachIs (fun v d => ∃ as, Reads s.heap v d as) vs ds) (hal : AllAlike ds) (ht : ∀ d ∈ ds, ∃ xs, d = .tuple xs) (hu : ∀ d, d ∈ ds → A.units + d.depth < cLine) : SortsAt prog w A s (dataKind s.heap ds) vs := by
  by_cases hne : ∀ d ∈ ds, d ≠ .tuple []
  · refine SortsAt.data e hal (.inl fun d hd => ?_) hu
    obtain ⟨xs, rfl⟩ := ht d hd
    cases xs with
    | nil => exact absurd rfl (hne _ hd)
    | cons x r => exact ⟨x, r, rfl⟩
  have room : ∀ {d d' : PyData}, d ∈ ds → A.units + min d.depth d'.depth < cLine := fun {d d'} hd => Nat.lt_of_le_of_lt (Nat.add_le_add_left (Nat.min_le_left _ _) _) (hu d hd)
  refine ⟨fun v hv => ?_, ?_⟩
  · obtain ⟨d, hd, as, r⟩ := e.left v hv
    exact ⟨_, dataKind_some hal hd r⟩
  have hallF : ∀ {os : List (Option Value)} {ds : List PyData}, EachIs (fun o d => o.isSome = true ↔ d ≠ .tuple []) os ds → (¬ ∀ d ∈ ds, d ≠ .tuple []) → (os.all fun o => o.isSome) = false := by
    intro os ds h
    induction h with
    | nil => intro n; exact absurd (fun d hd => by cases hd) n
    | @cons o d os ds h1 _ ih =>
      intro n
      rw [List.all_cons]
      cases ho : o.isSome with
      | false => rfl
      | true =>
        rw [ih fun q => n fun d' hd' => ?_, Bool.and_false]
        rcases List.mem_cons.mp hd' with rfl | hd'
        · exact h1.mp ho
        · exact q d' hd'
  by_cases h0 : ∃ ds', ds = .tuple [] :: ds'
  · obtain ⟨ds', rfl⟩ := h0
    refine ⟨oneType', ?_, fun h2 E Q hq => ?_⟩
    · intro E x y a b Q ha hb hq
      obtain ⟨d, as, hd, ra, rfl⟩ := dataKind_inv ha
      obtain ⟨d', as', hd', rb, rfl⟩ := dataKind_inv hb
      rw [keyLt'_oneType]
      have al := hal d hd d' hd'
      obtain ⟨xs, rfl⟩ := ht d hd
      obtain ⟨ys, rfl⟩ := ht d' hd'
      exact one_tup ra rb (by simpa [alike] using al) (room hd) hq
    · rw [keyKind'_eq, List.mapM_toArray, map_eq_pure_bind]
      refine wpAny_bind (wpAny_bind (firsts_at vs _ e ht fun os ho => wpAny_pure ?_))
      have hf : (os.toArray.all fun x => x.isSome) = false := by
        rw [List.all_toArray]; exact hallF ho hne
      rw [hf, if_neg Bool.false_ne_true]
      have h1 : (os.toArray[0]?.bind id).isSome = false := by
        cases ho with
        | @cons o d os ds h1 _ =>
          cases o with
          | none => rfl
          | some v => exact absurd rfl (h1.mp rfl)
      rw [h1, if_neg Bool.false_ne_true]
      rw [oneTypeOnly'_eq, List.mapM_toArray, map_eq_pure_bind]
      refine wpAny_bind (wpAny_bind (wpAny_bind (kas_mapM (r := Value.type "tuple") _ (fun v hv Q' hq => ?_) (wpAny_pure ?_))))
      · obtain ⟨d, hd, as, r⟩ := e.left v hv
        obtain ⟨xs, rfl⟩ := ht d hd
        exact (looks_reads r).here hq
      · have hl : 0 < vs.length := by omega
        have h3 : (List.map (fun _ => Value.type "tuple") vs).toArray[0]? = some (Value.type "tuple") := by
          cases vs with
          | nil => simp at hl
          | cons v vs => simp
        rw [h3]
        have h4 : ((List.map (fun _ => Value.type "tuple") vs).toArray.all fun x => x == Value.type "tuple") = true := by
          simp only [List.all_toArray, List.all_map, List.all_eq_true]
          intro _ _
          first | rfl | decide | exact beq_self_eq_true _
        simp only [h4, if_true]
        exact wpAny_pure (wpAny_pure hq)
  · refine ⟨general', ?_, fun h2 E Q hq => ?_⟩
    · intro E x y a b Q ha hb hq
      obtain ⟨d, as, hd, ra, rfl⟩ := dataKind_inv ha
      obtain ⟨d', as', hd', rb, rfl⟩ := dataKind_inv hb
      have al := hal d hd d' hd'
      show wpAny (model prog w) A (oneLt' false _ _) Q E s
      refine oneLt_alike (fun z => by cases z) ra rb al ?_ (room hd) hq
      obtain ⟨xs, rfl⟩ := ht d hd
      exact fun z => by cases z
    · rw [keyKind'_eq, List.mapM_toArray, map_eq_pure_bind]
      refine wpAny_bind (wpAny_bind (firsts_at vs _ e ht fun os ho => wpAny_pure ?_))
      have hf : (os.toArray.all fun x => x.isSome) = false := by
        rw [List.all_toArray]; exact hallF ho hne
      rw [hf, if_neg Bool.false_ne_true]
      have h1 : (os.toArray[0]?.bind id).isSome = true := by
        cases ho with
        | nil => exact absurd (fun d hd => by cases hd) hne
        | @cons o d os ds h1 _ =>
          have hd : d ≠ .tuple [] := fun z => h0 ⟨ds, by rw [z]⟩
          have h2 := h1.mpr hd
          cases o with
          | none => cases h2
          | some v => rfl
      rw [h1, if_pos rfl]
      exact wpAny_pure hq
/-- sorted(xs), tuples of any sizes -/
theorem sorted_tups {β : Type} {vs : List Value} {bs : List β} {enc : β → PyData} {R : Value → β → Prop} {l : Addr} {Q : Value → Shared → Prop} (hl : s.heap.IsList l vs.toArray) (e : EachIs R vs bs) (er : EachIs (fun v b => ∃ as, Reads s.heap v (enc b) as) vs bs)
    (hal : AllAlike (bs.map enc)) (ht : ∀ b ∈ bs, ∃ xs, enc b = .tuple xs) (hL : bs.length ≤ sizeLine) (hu : ∀ b, b ∈ bs → A.units + 2 + (enc b).depth < cLine)
    (h : ∀ out, out.length = bs.length → EachIs R out (bs.mergeSort (dataLe false enc)) → Q (.ref (s.heap.objs.size + 1)) { s with heap := sortedAll s.heap vs (List.toArray out) }) : wpAny (model prog w) A (call (.builtin "sorted") [.ref l]) Q E s := by
  have er' : EachIs (fun v b => ∃ as, Reads (sortingHeap (copyHeap s.heap vs) (s.heap.objs.size + 1) vs) v (enc b) as) vs bs := er.mono fun _ _ ⟨as, r⟩ => ⟨as, PyProof.Rows.Reads.keeps (fun _ _ => sorting_copy_old) r⟩
  have hb : ∀ d, d ∈ bs.map enc → A.in1.in1.units + d.depth < cLine := fun d hd => by
    obtain ⟨b, hb, rfl⟩ := List.mem_map.mp hd
    exact hu b hb
  have ht' : ∀ d ∈ bs.map enc, ∃ xs, d = .tuple xs := fun d hd => by
    obtain ⟨b, hb, rfl⟩ := List.mem_map.mp hd
    exact ht b hb
  refine sorted_vals hl (sortsTups (s := { s with heap := sortingHeap (copyHeap s.heap vs) (s.heap.objs.size + 1) vs }) (each_map (R := fun v d => ∃ as, Reads (sortingHeap (copyHeap s.heap vs) (s.heap.objs.size + 1) vs) v d as) enc er') hal ht' hb) (by rw [e.length]; exact hL) (h _ ?_ (sortVals_data false e er' hal))
  rw [sortVals_length false rfl]; exact e.length
end
end SrtTup
namespace DL
open PySem PySem.Spec PyProof.Rows L2
/-- tuples that compare -/
def gSortT : GC := fun ds k => match ds with
  | [.list es] => PySem.W.AllAlike es ∧ (∀ d ∈ es, (∃ xs, d = .tuple xs) ∧ d.depth ≤ 50) ∧ k (.new (.lst (es.mergeSort (PySem.W.dataLe false id))))
  | _ => False
theorem each_reps {K : PySem.W.Frag} {H : Hp} : ∀ {ds : List D} {ws : List V} {us : List Value}, Reps K H ds ws → Vals ws us → PySem.W.EachIs (fun (u : Value) (b : D × V) => RelV b.2 u ∧ Rep K H b.1 b.2) us (ds.zip ws)
  | [], _, _, h, r => by
    cases (show _ = ([] : List V) from h)
    cases r
    exact .nil
  | d :: ds, _, _, h, r => by
    obtain ⟨v, w, rfl, h1, h2⟩ := h
    cases r with
    | cons r1 r2 => exact .cons ⟨r1, h1⟩ (each_reps h2 r2)
theorem reps_each {K : PySem.W.Frag} {H : Hp} : ∀ {bs : List (D × V)} {us : List Value}, PySem.W.EachIs (fun (u : Value) (b : D × V) => RelV b.2 u ∧ Rep K H b.1 b.2) us bs → Reps K H (bs.map (·.1)) (bs.map (·.2)) ∧ Vals (bs.map (·.2)) us
  | _, _, .nil => ⟨rfl, .nil⟩
  | _, _, .cons r t => by
    obtain ⟨h1, h2⟩ := reps_each t
    exact ⟨⟨_, _, rfl, r.2, h1⟩, .cons r.1 h2⟩
theorem zip_fst : ∀ {ds : List D} {ws : List V}, ws.length = ds.length → (ds.zip ws).map (·.1) = ds
  | [], _, _ => rfl
  | d :: ds, [], h => by cases h
  | d :: ds, w :: ws, h => by rw [List.zip_cons_cons, List.map_cons, zip_fst (by simpa using h)]
theorem sort_map {α β : Type} (f : α → β) (le : β → β → Bool) (xs : List α) : (xs.mergeSort fun a b => le (f a) (f b)).map f = (xs.map f).mergeSort le := by
  exact List.map_mergeSort (r := fun a b => le (f a) (f b)) (s := le) (fun a _ b _ => rfl)
section
variable {X : Cx}
theorem cd_sortT (hu : X.A.units + 64 < cLine) : CallD X (.builtin "sorted") gSortT := by
  refine ⟨⟨fun vs H Q => ∃ (a : Addr) (ws : List V) (es : List D), vs = [V.ref a] ∧ SqL X.K H a ws ∧ Reps X.K H es ws ∧ PySem.W.AllAlike es ∧ (∀ d ∈ es, (∃ xs, d = .tuple xs) ∧ d.depth ≤ 50) ∧
      ∀ (ys : List V) (p : Addr), Reps X.K H (es.mergeSort (PySem.W.dataLe false id)) ys → H p = none → Q (.ref p) (upd H p (.lst ys)), ?_, fun H ds vs Q nd q => ?_⟩, fun ds k k' h q => ?_⟩
  · intro pins s σ H vs us Q I r h
    obtain ⟨a, ws, es, rfl, hs, rp, al, ht, q⟩ := h
    obtain ⟨its, rv, hl, hz⟩ := I.list hs
    rw [Vals.ref1 r]
    have hlen : ws.length = es.length := rp.len
    have zf := zip_fst hlen
    have mem1 : ∀ b ∈ es.zip ws, b.1 ∈ es := fun b hb => (List.of_mem_zip (a := b.1) (b := b.2) hb).1
    have er := each_reps rp rv
    have hzl : (es.zip ws).length ≤ sizeLine := by rw [List.length_zip]; omega
    refine SrtTup.sorted_tups (bs := es.zip ws) (enc := fun b => b.1) (R := fun (u : Value) (b : D × V) => RelV b.2 u ∧ Rep X.K H b.1 b.2) hl.isList er (er.mono fun u b z => rep_reads I z.2 z.1) ?_ (fun b hb => (ht b.1 (mem1 b hb)).1) hzl (fun b hb => by have := (ht b.1 (mem1 b hb)).2; omega) fun out ho e => ?_
    · rw [zf]; exact al
    · obtain ⟨r1, r2⟩ := reps_each e
      have ee : ((es.zip ws).mergeSort (PySem.W.dataLe false fun b => b.1)).map (·.1) = es.mergeSort (PySem.W.dataLe false id) := by
        have := sort_map (fun b : D × V => b.1) (PySem.W.dataLe false id) (es.zip ws)
        rw [zf] at this
        exact this
      rw [ee] at r1
      obtain ⟨ep, he'⟩ := PyProof.Rows.sortedAll_at s.heap its out.toArray
      have hl2 : (((es.zip ws).mergeSort (PySem.W.dataLe false fun b => b.1)).map (·.2)).length ≤ sizeLine := by
        rw [List.length_map, (List.mergeSort_perm _ _).length_eq]; exact hzl
      exact ⟨.ref _, upd H (s.heap.objs.size + 1) (.lst _), I.laid (t' := s.toks) (fun _ _ => PyProof.Rows.sortedAll_old) (Nat.le_succ _) ⟨hl2, out, ep, r2, he'⟩, rfl, q _ _ r1 (I.hok.fresh (Nat.le_succ _))⟩
  · unfold gSortT at q
    split at q
    · obtain ⟨al, ht, q⟩ := q
      obtain ⟨v, rfl, n⟩ := pr1 nd
      obtain ⟨a, ws, rfl, h1, h2⟩ := n.list
      exact ⟨a, ws, _, rfl, h1, h2, al, ht, fun ys p h3 hn => q _ _ (same_upd hn) ⟨rfl, p, rfl, hn, _, upd_same, h3.imm (imm_same (same_upd hn))⟩⟩
    · exact q.elim
  · unfold gSortT at q ⊢
    split at q
    · exact ⟨q.1, q.2.1, h _ q.2.2⟩
    · exact q
end
end DL
/-! DL20: order of tuples; the greatest with a default; calls with keywords; a dict emptied. -/
namespace DL
open PySem PySem.Spec PyProof.Rows L2
section
variable {X : Cx}
/-! ### a < b, tuples that compare -/
def gLtT : G2 := fun d e k => match d, e with
  | .tuple xs, .tuple ys => (PySem.W.alikeAll xs ys = true ∧ (PyData.tuple xs).depth ≤ 50) ∧ k (.dat (.bool (PySem.W.dataLt (.tuple xs) (.tuple ys))))
  | _, _ => False
theorem od_ltT (hu : X.A.units + 64 < cLine) : OpD X (compareOp .Lt) gLtT := by
  refine ⟨⟨fun x y H Q => ∃ xs ys, RepN X.K H (.tuple xs) x ∧ RepN X.K H (.tuple ys) y ∧ (PySem.W.alikeAll xs ys = true ∧ (PyData.tuple xs).depth ≤ 50) ∧ Q (.bl (PySem.W.dataLt (.tuple xs) (.tuple ys))) H, ?_, fun H d e v u Q nd ne q => ?_⟩, fun d e k k' h q => ?_⟩
  · intro pins s σ H x y v u Q I rx ry h
    obtain ⟨xs, ys, hd, he, ⟨al, dp⟩, q⟩ := h
    obtain ⟨as, ra⟩ := hd.reads I rx
    obtain ⟨bs, rb⟩ := he.reads I ry
    refine PySem.W.lt_data ra rb (by simpa [PySem.W.alike] using al) (fun z => by cases z) ?_ ⟨.bl _, H, I, rfl, q⟩
    have := Nat.min_le_left (PyData.tuple xs).depth (PyData.tuple ys).depth
    omega
  · unfold gLtT at q
    split at q
    · exact ⟨_, _, nd, ne, q.1, q.2 _ H (same_refl H) rfl⟩
    · exact q.elim
  · unfold gLtT at q ⊢
    split at q
    · exact ⟨q.1, h _ q.2⟩
    · exact q
/-! ### max of ints, with a default -/
def maxDf (c : Int) : List Int → Int
  | [] => c
  | x :: xs => xs.foldl max x
def tdMaxDf (ta td : TD) : TD := fun Γ Q => ta Γ fun r Γ1 => td Γ1 fun r2 Γ2 => dat Γ2 r fun d => dat Γ2 r2 fun e => ∃ (xs : List Int) (c : Int), d = .list (xs.map .int) ∧ e = .int c ∧ Q (.fz (.int (maxDf c xs))) Γ2
def rMaxDf (K : PySem.W.Frag) : List V → List V → Hp → VK → Prop := fun vs zs H Q => ∃ (a : Addr) (xs : List Int) (c : Int), vs = [V.ref a] ∧ zs = [.int c] ∧ SqL K H a (xs.map V.int) ∧ Q (.int (maxDf c xs)) H
theorem depthAll_i (xs : List Int) : PyData.depthAll (xs.map .int) = 0 := by
  induction xs with
  | nil => simp [PyData.depthAll]
  | cons x xs ih => simp [PyData.depthAll, PyData.depth, ih]
theorem al_ints (xs : List Int) : PySem.W.AlikeAll (xs.map .int) := by
  refine ⟨fun x hx y hy => ?_, fun x hx => ?_⟩
  · obtain ⟨i, _, rfl⟩ := List.mem_map.mp hx
    obtain ⟨j, _, rfl⟩ := List.mem_map.mp hy
    simp [PySem.W.alike]
  · obtain ⟨i, _, rfl⟩ := List.mem_map.mp hx
    exact fun z => by cases z
theorem cr_maxDf (hc : X.calm = true) (hu : X.A.units + 64 < cLine) : CallRK X (.builtin "max") [Str.ofString "default"] (rMaxDf X.K) := by
  intro pins s σ H xs zs us ws Q I r rz h
  obtain ⟨a, ns, c, rfl, rfl, hs, q⟩ := h
  obtain ⟨its, rv, hl, hz⟩ := I.list hs
  rw [Vals.ref1 r]
  cases rz with
  | cons r1 r2 =>
    cases r2
    obtain ⟨t, rfl⟩ := r1
    obtain ⟨as, ra⟩ := reps_reads I (Reps.of_ints (K := X.K) (H := H) ns) rv
    have ra : ReadsAll s.heap its.toArray.toList (ns.map .int) as := by simpa using ra
    show wpAny _ _ (call (.builtin "max") [.ref a] [(Str.ofString "default", Value.int c t)]) _ _ s
    refine PySem.W.max_list_default (I.ok.hd hc) hl.isList ra (al_ints ns) (by rw [depthAll_i]; omega) (fun e h' tk hk => ?_) fun y ys i v h' tk bs e hv hr hk => ?_
    · cases ns with
      | nil => exact ⟨.int c, H, I.kept (t' := tk) hk, ⟨t, rfl⟩, q⟩
      | cons n ns => cases e
    · cases ns with
      | nil => cases e
      | cons n ns =>
        cases e
        rw [PySem.W.maxD_ints] at hr
        cases hr with
        | int _ t' => exact ⟨.int _, H, I.kept (t' := tk) hk, ⟨t', rfl⟩, q⟩
theorem pd_maxDf {a b : Expr} {ta td : TD} {p pos kpos : Pos} (hc : X.calm = true) (hu : X.A.units + 64 < cLine) (hg : Gl X "max") (hm : X.mg "max" = none) (ha : PD X a ta) (hb : PD X b td) (hv : bootBuiltins "max" = some (.builtin "max") := by decide +kernel)
    (hst : starEach [a] X.env = (false, eval a X.env) :: starEach [] X.env := by rfl)
    (he : backTo pos (starEach [a] X.env) = (false, eval a X.env) :: backTo pos (starEach [] X.env) := by rfl) (hpl : (backTo pos (starEach [a] X.env)).any (·.1) = false := by rfl)
    (hall : (backToKw pos (keywordEach [⟨some "default", b, kpos⟩] X.env)).all (·.1.isSome) = true := by rfl) (hnone : (backToKw pos (keywordEach [⟨some "default", b, kpos⟩] X.env)).any (·.1.isNone) = false := by rfl) (hks : (backToKw pos (keywordEach [⟨some "default", b, kpos⟩] X.env)).filterMap (·.1) = [Str.ofString "default"] := by rfl) :
    PD X (.Call (.Name "max" p) [a] [⟨some "default", b, kpos⟩] pos) (tdMaxDf ta td) := by
  refine ⟨PE.imp (pe_callBK (cr_maxDf hc hu) hg hm hv (pa_cons ha.run pa_nil hst) (pk_cons hb.run pk_nil) (by decide) (by decide) he hpl hall hnone hks) fun σ H Q ⟨Γ, g0, q⟩ => ⟨Γ, g0, ha.mono _ _ _ (fun r Γ1 q1 => ?_) q⟩, fun Γ Q Q' h => ha.mono _ _ _ fun r Γ1 => hb.mono _ _ _ fun r2 Γ2 => dat_mono fun d => dat_mono fun e ⟨xs, c, e1, e2, q⟩ => ⟨xs, c, e1, e2, h _ _ q⟩⟩
  intro v H1 a1 r1
  refine ⟨Γ1, a1.rg, hb.mono _ _ _ (fun r2 Γ2 q2 => ?_) q1⟩
  intro u H2 a2 r2'
  have a12 := a1.trans g0 a2
  obtain ⟨d, nd, q2⟩ := dat_ok a2.rg (r1.later g0 a1.rg a2) q2
  obtain ⟨e, ne, xs, c, rfl, rfl, q2⟩ := dat_ok a2.rg r2' q2
  obtain ⟨l, ws, rfl, h1, h2⟩ := nd.list
  rw [h2.ints] at h1
  exact ⟨l, xs, c, rfl, by rw [ne.int], h1, q2 _ H2 a12 rfl⟩
end
/-! ### calls with keywords -/
structure PKD (X : Cx) (kws : List Keyword) (t : TAD) : Prop where
  run : PK X kws (liftA X.K t)
  mono : MonoA t
  len : ∀ Γ Q, t Γ Q → t Γ fun rs Γ' => rs.length = kws.length ∧ Q rs Γ'
theorem PK.imp {X : Cx} {kws : List Keyword} {t t' : TA} (h : PK X kws t) (hi : ∀ σ H Q, t' σ H Q → t σ H Q) : PK X kws t' := ⟨fun pos pins s σ H Q I q => h.run pos pins s σ H Q I (hi _ _ _ q)⟩
def taApp (t u : TAD) : TAD := fun Γ Q => t Γ fun rs Γ1 => u Γ1 fun zs Γ2 => Q (rs ++ zs) Γ2
theorem Ress.later {K : PySem.W.Frag} {H H1 H2 : Hp} {σ : Sl} {Γ Γ1 Γ2 : G} (h : RG K H σ Γ) (a1 : RG K H1 σ Γ1) (a : Aft K H1 Γ1 H2 σ Γ2) : ∀ {rs : List SV} {vs : List V}, Ress K H σ Γ H1 Γ1 rs vs → Ress K H σ Γ H2 Γ2 rs vs
  | [], _, q => q
  | r :: rs, _, q => by
    obtain ⟨v, w, e, h1, h2⟩ := q
    exact ⟨v, w, e, h1.later h a1 a, Ress.later h a1 a h2⟩
theorem Ress.app {K : PySem.W.Frag} {H H' : Hp} {σ : Sl} {Γ Γ' : G} : ∀ {rs zs : List SV} {vs us : List V}, Ress K H σ Γ H' Γ' rs vs → Ress K H σ Γ H' Γ' zs us → Ress K H σ Γ H' Γ' (rs ++ zs) (vs ++ us)
  | [], _, _, _, h, q => by rw [show _ = [] from h]; exact q
  | r :: rs, _, _, _, h, q => by
    obtain ⟨v, w, rfl, h1, h2⟩ := h
    exact ⟨v, _, rfl, h1, Ress.app h2 q⟩
section
variable {X : Cx} {kws : List Keyword} {t tk : TAD} {a : Expr} {ta : TD} {nm : Option Str} {kpos : Pos}
theorem pkd_nil : PKD X [] taNil := ⟨PK.imp pk_nil fun σ H Q ⟨Γ, g, q⟩ => q [] H (Aft.refl g) rfl, fun Γ Q Q' h q => h _ _ q, fun Γ Q q => ⟨rfl, q⟩⟩
theorem pkd_cons (ha : PD X a ta) (hr : PKD X kws tk) : PKD X (⟨nm, a, kpos⟩ :: kws) (taCons ta tk) := by
  refine ⟨PK.imp (pk_cons ha.run hr.run) fun σ H Q ⟨Γ, g, q⟩ => ⟨Γ, g, ha.mono _ _ _ (fun r Γ1 q => ?_) q⟩, fun Γ Q Q' h => ha.mono _ _ _ fun r Γ1 => hr.mono _ _ _ fun rs Γ2 q => h _ _ q, fun Γ Q q => ha.mono _ _ _ (fun r Γ1 q => hr.mono _ _ _ (fun rs Γ2 z => ⟨by rw [List.length_cons, List.length_cons, z.1], z.2⟩) (hr.len _ _ q)) q⟩
  intro v H1 a1 r1
  refine ⟨Γ1, a1.rg, hr.mono _ _ _ (fun rs Γ2 q => ?_) q⟩
  intro vs H2 a2 r2
  exact q (v :: vs) H2 (a1.trans g a2) ⟨v, vs, rfl, r1.later g a1.rg a2, r2.from a1⟩
/-- a def with keywords, all of them written -/
structure DefKw (P : Program) (w : World) (K : PySem.W.Frag) (mg : Str → Option Value) (base : Heap) (k : Nat) (x : Str) (ps : List Str) (n : Nat) (ks : List Str) (sp : SpD) : Prop where
  ok : ∃ f fd, FnOk P w K mg base CX0 k f fd ps (liftSp K (n + ks.length) sp) ∧ mg x = some (.ref f) ∧ PySem.W.keepIn K (.ref f) = true ∧ KBn K fd ps n ks (fun us ws => us ++ ws) (fun vs zs => vs ++ zs)
  ms : MonoSp sp
theorem pd_defK {k n j : Nat} {ps ks : List Str} {sp : SpD} {x : Str} {p pos : Pos} {e : Expr} {es : List Expr} {t tk : TAD} {kws : List Keyword} (F : DefKw X.prog X.w X.K X.mg X.base k x ps n ks sp) (hr : Room j X.A) (ha : PAD X (e :: es) t) (hk : PKD X kws tk) (hj : k ≤ j := by first | decide | omega)
    (hg : Gl X x := by rfl) (hn : (e :: es).length = n := by rfl) (hm : kws.length = ks.length := by rfl)
    (hall : (backToKw pos (keywordEach kws X.env)).all (·.1.isSome) = true := by rfl) (hks : (backToKw pos (keywordEach kws X.env)).filterMap (·.1) = ks := by rfl)
    (hdb : (x == ("__debug__" : Str)) = false := by decide) (he : starEach (e :: es) X.env = (false, eval e X.env) :: starEach es X.env := by rfl)
    (hpl : ((backTo pos (starEach (e :: es) X.env)).any (·.1) || (backToKw pos (keywordEach kws X.env)).any (·.1.isNone)) = false := by rfl) : PD X (.Call (.Name x p) (e :: es) kws pos) (tdCallD sp [] (taApp t tk)) := by
  obtain ⟨f, fd, h1, h2, h3, h4⟩ := F.ok
  have mo : MonoA (taApp t tk) := fun Γ Q Q' h => ha.mono _ _ _ fun rs Γ1 => hk.mono _ _ _ fun zs Γ2 q => h _ _ q
  refine ⟨PE.imp (pe_callN h1 (hr.mono hj) hg h2 h3 h4 pass0 ha.run hk.run hall hks hdb he hpl) fun σ H Q ⟨Γ, g, q⟩ => ⟨Γ, g, ha.mono _ _ _ (fun rs Γ1 q => ?_) (ha.len _ _ q)⟩, tdCallD_mono F.ms mo⟩
  intro vs H1 a1 rr
  refine ⟨Γ1, a1.rg, hk.mono _ _ _ (fun zs Γ2 q2 => ?_) (hk.len _ _ q.2)⟩
  intro us H2 a2 rz
  have a12 := a1.trans g a2
  have l1 : vs.length = n := by rw [rr.len, q.1]; exact hn
  have l2 : us.length = ks.length := by rw [rz.len, q2.1]; exact hm
  have r12 := (Ress.later g a1.rg a2 rr).app (Ress.from a1 rz)
  have := call_ok (X := X) (EX := E0) F.ms (dD := []) (dvs := []) (fun _ => rfl) g a12 r12 (n := n + ks.length) (by rw [List.append_nil, List.length_append, l1, l2]) q2.2.1 q2.2.2
  rw [List.append_nil] at this
  exact ⟨l1, l2, this⟩
/-- a def whose defaults are all used -/
structure DefDf (P : Program) (w : World) (K : PySem.W.Frag) (mg : Str → Option Value) (base : Heap) (k : Nat) (x : Str) (ps : List Str) (n : Nat) (dD : List D) (sp : SpD) : Prop where
  ok : ∃ f fd ds dvs, FnOk P w K mg base CX0 k f fd ps (liftSp K n sp) ∧ mg x = some (.ref f) ∧ PySem.W.keepIn K (.ref f) = true ∧ L2.Binds K fd ps ds ∧ Vals dvs ds ∧ ∀ H, Reps K H dD dvs
  ms : MonoSp sp
theorem pd_defD {k n j : Nat} {ps : List Str} {dD : List D} {sp : SpD} {x : Str} {p pos : Pos} {e : Expr} {es : List Expr} {t : TAD} (F : DefDf X.prog X.w X.K X.mg X.base k x ps n dD sp) (hr : Room j X.A) (ha : PAD X (e :: es) t) (hj : k ≤ j := by first | decide | omega) (hg : Gl X x := by rfl) (hn : (e :: es).length + dD.length = n := by rfl)
    (hdb : (x == ("__debug__" : Str)) = false := by decide) (he : starEach (e :: es) X.env = (false, eval e X.env) :: starEach es X.env := by rfl) (hpl : (backTo pos (starEach es X.env)).any (·.1) = false := by rfl) : PD X (.Call (.Name x p) (e :: es) [] pos) (tdCallD sp dD t) := by
  obtain ⟨f, fd, ds, dvs, h1, h2, h3, h4, h5, h6⟩ := F.ok
  exact pd_callD h1 F.ms (hr.mono hj) hg h2 h3 h4 h5 h6 pass0 ha hn hdb he hpl
end
/-! ### d.clear(), keys that are tuples -/
def gClrT : GM := fun o ds k => match o, ds with
  | .dT _, [] => k .none (.dT [])
  | _, _ => False
theorem mt_clrT {X : Cx} : MtD X "dict" "dict.clear" gClrT := by
  refine ⟨fun o ds k q => ?_, ⟨fun x xs H Q => ∃ (a : Addr) (kvs : List (List Key × V)), x = .ref a ∧ xs = [] ∧ H a = some (.dT kvs) ∧ Q .non (upd H a (.dT [])), ?_, fun H p o ds vs Q ok rp q => ?_⟩, fun o ds k k' h q => ?_⟩
  · unfold gClrT at q ⊢
    split at q
    · exact ⟨rfl, q⟩
    · exact q
  · intro pins s σ H x xs v us Q I rx rxs h
    obtain ⟨a, kvs, rfl, rfl, ha, q⟩ := h
    cases rx
    cases rxs
    obtain ⟨z, hd, ys, rel, o, es, ep, ho, hc, hdt, he, hn⟩ := (show ObjOk X.prog X.w H s.heap a (.dT kvs) from I.hok a _ ha)
    have hsz : es.size ≤ sizeLine := by rw [size_of_entries he, ← Paired.length rel]; exact z
    refine call_meetsIn PySem.F.slot_dict_clear ⟨o, ho, hc.1⟩ PySem.F.entry_dict_clear (PySem.F.args_dict_clear_1 _) (meets_dict_clear_raw a) ⟨es, ep, ⟨o, ho, hc, hdt⟩, hsz, fun h' hr hs => ?_⟩
    obtain ⟨o', ho', hc', hdt'⟩ := hr
    show EP X pins σ Q .none _
    exact ⟨.non, upd H a (.dT []), d_write (t' := s.toks) (ob := .dT []) I (by rw [ha]; exact True.intro) hs ⟨o', ho'⟩ ⟨Nat.zero_le _, hd, [], .nil, o', #[], ep + 1, ho', hc', hdt', rfl, List.nodup_nil⟩, rfl, q⟩
  · unfold gClrT at q
    split at q
    · obtain ⟨ws, e, _⟩ := ok
      cases (show vs = [] from rp)
      have im : Imm H (upd H p (.dT [])) := Imm.upd (.inr (by rw [e]; trivial))
      exact ⟨p, ws, rfl, rfl, e, q .non _ upd_k im ⟨_, upd_same, rfl⟩ rfl⟩
    · exact q.elim
  · unfold gClrT at q ⊢
    split at q
    · exact h _ _ q
    · exact q
end DL
/-! DL21: list comprehensions of two clauses. -/
namespace DL
open PySem PySem.Spec PyProof.Rows L2
structure MonoL2 (tg : TGD) (tt : TB) (ti1 : TID) (tg1 : TGD) (tt1 : TB) (te : TD) : Prop where
  mg : ∀ d Γ (Q Q' : G → Prop), (∀ Γ', Q Γ' → Q' Γ') → tg d Γ Q → tg d Γ Q'
  mt : MonoB tt
  mi : MonoI ti1
  mg1 : ∀ d Γ (Q Q' : G → Prop), (∀ Γ', Q Γ' → Q' Γ') → tg1 d Γ Q → tg1 d Γ Q'
  mt1 : MonoB tt1
  me : Mono te
/-- the second clause's own loop -/
structure L2I (ds1 : List D) (lk1 : Lk) (Γ4 : G) (tg1 : TGD) (tt1 : TB) (te : TD) (vs1 : List Nat) (acc : List D) (fin : List D → G → Prop) : Prop where
  out : ∃ inv1 : List D → List D → List D → G → Prop, inv1 [] ds1 acc (wipeD Γ4 vs1) ∧
    (∀ dn rs acc Γ, dn ++ rs = ds1 → inv1 dn rs acc Γ → lkOk lk1 Γ ∧ acc.length < sizeLine) ∧
    (∀ dn x rs acc Γ, dn ++ x :: rs = ds1 → inv1 dn (x :: rs) acc Γ → tg1 x Γ fun Γ5 => tt1 Γ5 fun b Γ6 => Br b (te Γ6 fun r Γ7 => ∃ z, r = .fz z ∧ inv1 (dn ++ [x]) rs (acc ++ [z]) (wipeD Γ7 vs1)) (inv1 (dn ++ [x]) rs acc (wipeD Γ6 vs1))) ∧
    ∀ acc Γ, inv1 ds1 [] acc Γ → fin acc Γ
structure L2R (ds : List D) (lk : Lk) (Γ1 : G) (tg : TGD) (tt : TB) (ti1 : TID) (tg1 : TGD) (tt1 : TB) (te : TD) (vs vs1 : List Nat) (Q : SV → G → Prop) : Prop where
  out : ∃ inv : List D → List D → List D → G → Prop, inv [] ds [] (wipeD Γ1 vs) ∧
    (∀ done rest acc Γ, done ++ rest = ds → inv done rest acc Γ → lkOk lk Γ) ∧
    (∀ done d rest acc Γ, done ++ d :: rest = ds → inv done (d :: rest) acc Γ → tg d Γ fun Γ2 => tt Γ2 fun b Γ3 => Br b (ti1 Γ3 fun ds1 lk1 Γ4 => L2I ds1 lk1 Γ4 tg1 tt1 te vs1 acc fun acc' Γ5 => inv (done ++ [d]) rest acc' (wipeD Γ5 vs)) (inv (done ++ [d]) rest acc (wipeD Γ3 vs))) ∧
    ∀ acc Γ, inv ds [] acc Γ → ∀ p, Q (.ow p (.lst acc)) (unwipe Γ Γ1 vs)
def tdLc2 (ti : TID) (tg : TGD) (tt : TB) (ti1 : TID) (tg1 : TGD) (tt1 : TB) (te : TD) (vs vs1 : List Nat) : TD := fun Γ Q => ti Γ fun ds lk Γ1 => MonoL2 tg tt ti1 tg1 tt1 te → L2R ds lk Γ1 tg tt ti1 tg1 tt1 te vs vs1 Q
theorem tdLc2_mono {ti : TID} {tg : TGD} {tt : TB} {ti1 : TID} {tg1 : TGD} {tt1 : TB} {te : TD} {vs vs1 : List Nat} (mi : MonoI ti) (m : MonoL2 tg tt ti1 tg1 tt1 te) : Mono (tdLc2 ti tg tt ti1 tg1 tt1 te vs vs1) := fun Γ Q Q' hq =>
  mi _ _ _ fun ds lk Γ1 q mc => let ⟨inv, i0, il, turn, last⟩ := (q mc).out; ⟨inv, i0, il, turn, fun acc Γ2 i2 p => hq _ _ (last acc Γ2 i2 p)⟩
theorem wipe_sub {vs vs1 : List Nat} (h : ∀ i ∈ vs1, i ∈ vs) {σ τ : Sl} (e : wipe τ vs1 = wipe σ vs1) : wipe τ vs = wipe σ vs := by
  have key : ∀ (us : List Nat) (α β : Sl), (∀ u ∈ us, u ∈ vs) → wipe α us = wipe β us → wipe α vs = wipe β vs := by
    intro us α β hu e
    have z : ∀ γ : Sl, wipe (wipe γ us) vs = wipe γ vs := by
      intro γ
      apply List.ext_getElem?
      intro i
      have g : ∀ (ws : List Nat) (δ : Sl), (wipe δ ws)[i]? = if i ∈ ws then (δ[i]?).map fun _ => none else δ[i]? := by
        intro ws δ
        induction ws with
        | nil => rfl
        | cons w ws ih =>
          show ((wipe δ ws).set w none)[i]? = _
          by_cases e : i = w
          · subst e
            rw [List.getElem?_set]
            simp only [List.mem_cons, true_or, if_true]
            split
            · rename_i h
              rw [wipe_length] at h
              rw [List.getElem?_eq_getElem h]; rfl
            · rename_i h
              rw [wipe_length] at h
              rw [List.getElem?_eq_none (by omega)]; rfl
          · rw [List.getElem?_set_ne (Ne.symm e), ih]
            simp only [List.mem_cons, e, false_or]
      rw [g, g, g]
      by_cases hi : i ∈ vs
      · rw [if_pos hi, if_pos hi]
        split
        · cases γ[i]? <;> rfl
        · rfl
      · rw [if_neg hi, if_neg hi, if_neg fun y => hi (hu i y)]
    rw [← z α, ← z β, e]
  exact key vs1 τ σ h e
theorem tdLc2_ok {K : PySem.W.Frag} {ti : TID} {tgd : TGD} {tt : TB} {ti1 : TID} {tg1 : TGD} {tt1 : TB} {te : TD} {vs vs1 : List Nat} (hv : ∀ i ∈ vs1, i ∈ vs) (mi : MonoI ti) (m : MonoL2 tgd tt ti1 tg1 tt1 te) {σ : Sl} {H : Hp} {Q : VK} (q : lift K (tdLc2 ti tgd tt ti1 tg1 tt1 te vs vs1) σ H Q) :
    tLc2 (liftI K ti) (fun v σ H Q => ∃ Γ d, RG K H σ Γ ∧ Rep K H d v ∧ tgd d Γ fun Γ' => ∀ σ', Aft K H Γ H σ' Γ' → wipe σ' vs = wipe σ vs → Q σ' H) (liftB K tt) (liftI K ti1) (fun v σ H Q => ∃ Γ d, RG K H σ Γ ∧ Rep K H d v ∧ tg1 d Γ fun Γ' => ∀ σ', Aft K H Γ H σ' Γ' → wipe σ' vs1 = wipe σ vs1 → Q σ' H) (liftB K tt1) (lift K te) vs vs1 σ H Q := by
  obtain ⟨Γ, g0, q⟩ := q
  refine ⟨Γ, g0, mi _ _ _ (fun ds lk Γ1 q J H1 St a1 src stb l hl => ?_) q⟩
  obtain ⟨inv, i0, il, turn, last⟩ := (q m).out
  have g1 := a1.rg
  have gw := rg_wipe (vs := vs) g1
  have b0 : Aft K H1 (wipeD Γ1 vs) (upd H1 l (.lst [])) (wipe σ vs) (wipeD Γ1 vs) := Aft.same gw (same_upd hl)
  have keepl : ∀ {H H' : Hp} {σ' σ'' : Sl} {Γ Γ' : G} {us : HO} [NT us], RG K H σ'' Γ → Aft K H Γ H' σ' Γ' → H l = some us → ¬ own Γ l → H' l = some us ∧ ¬ own Γ' l := fun {H H' σ' σ'' Γ Γ' us} _ g a e n => by
    refine ⟨a.keep _ _ e n, fun z => ?_⟩
    rcases a.sh l z with z | z
    · exact n z
    · rw [e] at z; cases z
  -- the state between the turns of the first clause
  refine ⟨fun i m H' => ∃ done rest acc Γ' ws, done ++ rest = ds ∧ i = done.length ∧ m = rest.length ∧ Aft K H1 (wipeD Γ1 vs) H' (wipe σ vs) Γ' ∧ H' l = some (.lst ws) ∧ Reps K H' acc ws ∧ ¬ own Γ' l ∧ inv done rest acc Γ',
    ⟨ds.length, [], ds, [], wipeD Γ1 vs, [], rfl, rfl, rfl, b0, upd_same, rfl, fun z => gw.there z hl, i0⟩, ?_⟩
  rintro i _ H2 ⟨done, rest, acc, Γ2, ws, e, rfl, rfl, a2, el, rl, nl, i2⟩
  have st2 : St H2 := stb H2 _ Γ2 (a2.imm gw) a2.rg (il done rest acc Γ2 e i2)
  cases rest with
  | nil =>
    rw [List.append_nil] at e
    subst e
    obtain ⟨a3, ow3⟩ := aft_unwipe g1 a2
    refine .inl ⟨src.stop H2 st2, last acc Γ2 i2 l (.ref l) H2 (a1.trans g0 a3) ⟨rfl, ⟨ws, el, rl⟩, fp1 rfl fun z => ?_, fp1 rfl (a1.fresh (.inr hl))⟩⟩
    rcases ow3 l z with z | z
    · exact nl z
    · exact g1.there z hl
  | cons d rest =>
    have ed : ds[done.length]? = some d := by
      rw [← e, List.getElem?_append_right (Nat.le_refl _), Nat.sub_self]
      rfl
    have hlt : done.length < ds.length := by rw [← e, List.length_append, List.length_cons]; omega
    refine .inr ⟨src.go _ H2 st2 hlt, fun H' => ∃ acc' Γ' ws', Aft K H1 (wipeD Γ1 vs) H' (wipe σ vs) Γ' ∧ H' l = some (.lst ws') ∧ Reps K H' acc' ws' ∧ ¬ own Γ' l ∧ inv (done ++ [d]) rest acc' Γ', fun H' ⟨acc', Γ', ws', z2, z3, z4, z5, z6⟩ => ⟨rest.length, by simp, done ++ [d], rest, acc', Γ', ws', by rw [← e]; simp, by simp, rfl, z2, z3, z4, z5, z6⟩, fun x H3 y => ?_⟩
    obtain ⟨sm, rx⟩ := src.yld _ d H2 x H3 st2 ed y
    have a3 := Aft.same a2.rg sm
    have a13 := a2.trans gw a3
    refine ⟨Γ2, d, a3.rg, rx, m.mg _ _ _ _ (fun Γ4 q σ4 a4 hw => ?_) (turn done d rest acc Γ2 e i2)⟩
    have hwv : wipe σ4 vs = wipe σ vs := hw.trans (wipe_wipe σ vs)
    refine ⟨hwv, Γ4, a4.rg, m.mt _ _ _ (fun b Γ5 q H5 a5 => ?_) q⟩
    obtain ⟨l3, n3⟩ := keepl a2.rg a3 el nl
    obtain ⟨l4, n4⟩ := keepl a3.rg a4 l3 n3
    obtain ⟨l5, n5⟩ := keepl a4.rg a5 l4 n4
    have im5 : Imm H2 H5 := ((imm_same sm).trans a4.im).trans a5.im
    -- the slots of the block forgotten again
    have wiped : ∀ {H' : Hp} {Γ' : G} {τ : Sl}, wipe τ vs = wipe σ vs → Aft K H1 (wipeD Γ1 vs) H' τ Γ' → Aft K H1 (wipeD Γ1 vs) H' (wipe σ vs) (wipeD Γ' vs) := fun {H' Γ' τ} hτ a => by
      refine ⟨a.keep, ?_, fun c z => a.sh c (own_wipe z), a.im⟩
      have := rg_wipe (vs := vs) a.rg
      rw [hτ] at this
      exact this
    have a15 := (a13.trans gw a4).trans gw a5
    rw [br_iff] at q
    split at q
    · rename_i eb
      rw [if_pos eb]
      refine ⟨Γ5, a5.rg, m.mi _ _ _ (fun ds1 lk1 Γ6 q J1 H6 St1 a6 src1 stb1 => ?_) q⟩
      obtain ⟨inv1, j0, jl, turn1, last1⟩ := q.out
      have a16 := a15.trans gw a6
      have g6 := a16.rg
      have gw1 := rg_wipe (vs := vs1) g6
      obtain ⟨l6, n6⟩ := keepl a5.rg a6 l5 n5
      have w6 : Aft K H1 (wipeD Γ1 vs) H6 (wipe σ4 vs1) (wipeD Γ6 vs1) := ⟨a16.keep, gw1, fun c z => a16.sh c (own_wipe z), a16.im⟩
      refine ⟨fun j k H' => ∃ dn rs acc' Γ' ws', dn ++ rs = ds1 ∧ j = dn.length ∧ k = rs.length ∧ Aft K H1 (wipeD Γ1 vs) H' (wipe σ4 vs1) Γ' ∧ Imm H6 H' ∧ H' l = some (.lst ws') ∧ Reps K H' acc' ws' ∧ ¬ own Γ' l ∧ inv1 dn rs acc' Γ',
        ⟨ds1.length, [], ds1, acc, wipeD Γ6 vs1, ws, rfl, rfl, rfl, w6, Imm.refl _, l6, rl.imm (im5.trans a6.im), fun z => n6 (own_wipe z), j0⟩, ?_⟩
      rintro j k H7 ⟨dn, rs, acc', Γ7, ws', e1, rfl, rfl, a7, im7, el7, rl7, nl7, i7⟩
      obtain ⟨jl1, jl2⟩ := jl dn rs acc' Γ7 e1 i7
      have st7 : St1 H7 := stb1 H7 _ Γ7 im7 a7.rg jl1
      have hwi : wipe (wipe σ4 vs1) vs = wipe σ vs := (wipe_sub hv (wipe_wipe σ4 vs1)).trans hwv
      cases rs with
      | nil =>
        rw [List.append_nil] at e1
        subst e1
        exact .inl ⟨src1.stop H7 st7, acc', wipeD Γ7 vs, ws', wiped hwi a7, el7, rl7, fun z => nl7 (own_wipe z), last1 acc' Γ7 i7⟩
      | cons x1 rs =>
        have ed1 : ds1[dn.length]? = some x1 := by
          rw [← e1, List.getElem?_append_right (Nat.le_refl _), Nat.sub_self]
          rfl
        have hlt1 : dn.length < ds1.length := by rw [← e1, List.length_append, List.length_cons]; omega
        refine .inr ⟨src1.go _ H7 st7 hlt1, fun H' => ∃ acc'' Γ' ws'', Aft K H1 (wipeD Γ1 vs) H' (wipe σ4 vs1) Γ' ∧ Imm H6 H' ∧ H' l = some (.lst ws'') ∧ Reps K H' acc'' ws'' ∧ ¬ own Γ' l ∧ inv1 (dn ++ [x1]) rs acc'' Γ', fun H' ⟨acc'', Γ', ws'', z2, z3, z4, z5, z6, z7⟩ => ⟨rs.length, by simp, dn ++ [x1], rs, acc'', Γ', ws'', by rw [← e1]; simp, by simp, rfl, z2, z3, z4, z5, z6, z7⟩, fun x2 H8 y1 => ?_⟩
        obtain ⟨sm1, rx1⟩ := src1.yld _ x1 H7 x2 H8 st7 ed1 y1
        have a8 := Aft.same a7.rg sm1
        have a18 := a7.trans gw a8
        refine ⟨Γ7, x1, a8.rg, rx1, m.mg1 _ _ _ _ (fun Γ9 q σ9 a9 hw9 => ?_) (turn1 dn x1 rs acc' Γ7 e1 i7)⟩
        have hw9' : wipe σ9 vs1 = wipe σ4 vs1 := hw9.trans (wipe_wipe σ4 vs1)
        refine ⟨hw9', Γ9, a9.rg, m.mt1 _ _ _ (fun b1 Γ10 q H10 a10 => ?_) q⟩
        obtain ⟨l8, n8⟩ := keepl a7.rg a8 el7 nl7
        obtain ⟨l9, n9⟩ := keepl a8.rg a9 l8 n8
        obtain ⟨l10, n10⟩ := keepl a9.rg a10 l9 n9
        have im10 : Imm H7 H10 := ((imm_same sm1).trans a9.im).trans a10.im
        have wiped1 : ∀ {H' : Hp} {Γ' : G}, Aft K H1 (wipeD Γ1 vs) H' σ9 Γ' → Aft K H1 (wipeD Γ1 vs) H' (wipe σ4 vs1) (wipeD Γ' vs1) := fun {H' Γ'} a => by
          refine ⟨a.keep, ?_, fun c z => a.sh c (own_wipe z), a.im⟩
          have := rg_wipe (vs := vs1) a.rg
          rw [hw9'] at this
          exact this
        have a110 := (a18.trans gw a9).trans gw a10
        rw [br_iff] at q
        split at q
        · rename_i eb1
          rw [if_pos eb1]
          refine ⟨Γ10, a10.rg, m.me _ _ _ (fun r Γ11 q v H11 a11 r11 => ?_) q⟩
          obtain ⟨z, rfl, i11⟩ := q
          obtain ⟨l11, n11⟩ := keepl a10.rg a11 l10 n10
          have im11 := im10.trans a11.im
          have mu : MuL (H11 l) := by rw [l11]; trivial
          have im12 : Imm H11 (upd H11 l (.lst (ws' ++ [v]))) := Imm.upd (.inr mu)
          refine ⟨ws', l11, by rw [rl7.len]; exact jl2, acc' ++ [z], wipeD Γ11 vs1, ws' ++ [v], ?_, (im7.trans im11).trans im12, upd_same, ((rl7.imm im11).append (Reps.one r11)).imm im12, fun z => n11 (own_wipe z), i11⟩
          have a111 := wiped1 (a110.trans gw a11)
          refine ⟨fun c u z1 z2 => ?_, ?_, a111.sh, a111.im.trans im12⟩
          · have nc : c ≠ l := fun z => by rw [z, hl] at z1; cases z1
            rw [upd_ne nc]
            intro _
            exact a111.keep c u z1 z2
          · have g11 := a111.rg
            refine ⟨g11.len, fun j dd z => ?_, fun j p o z => ?_, g11.raw, g11.one, g11.tbm im12⟩
            · obtain ⟨w, w1, w2⟩ := g11.fz _ _ z
              exact ⟨w, w1, w2.imm im12⟩
            · obtain ⟨w1, w2⟩ := g11.ow _ _ _ z
              exact ⟨w1, w2.keep (fun a ha u => keep_upd a u fun y => n11 (by rw [← y]; exact own_wipe (own_mk z ha))) im12⟩
        · rename_i eb1
          rw [if_neg eb1]
          exact ⟨acc', wipeD Γ10 vs1, ws', wiped1 a110, im7.trans im10, l10, rl7.imm im10, fun z => n10 (own_wipe z), q⟩
    · rename_i eb
      rw [if_neg eb]
      exact ⟨acc, wipeD Γ5 vs, ws, wiped hwv a15, l5, rl.imm im5, fun z => n5 (own_wipe z), q⟩
section
variable {X : Cx} {tg iter tgx iter1 elt : Expr} {pos : Pos} {ti ti1 : TID} {tgd tg1 : TGD} {tt tt1 : TB} {te : TD} {ifs ifs1 : List Expr} {scope : Scope}
theorem pd_lc2 (own : List (Str × Nat)) (vs1 : List Nat) (hc : X.calm = true) (hN : X.N.Nodup) (hi : PID X tg iter ti) (ok : BlkOk X.N X.env.scope scope own) (hg : ∀ (s : Shared) (H : Hp) (C : Addr) (cl : List (Str × Addr)) (fp : List Addr), PGC (X.blk s H scope (compEnvC scope cl C X.env) fp) tg (own.map (·.2)) tgd)
    (ht : ∀ (s : Shared) (H : Hp) (C : Addr) (cl : List (Str × Addr)) (fp : List Addr), PBs (X.blk s H scope (compEnvC scope cl C X.env) fp) ifs tt) (hi1 : ∀ (s : Shared) (H : Hp) (C : Addr) (cl : List (Str × Addr)) (fp : List Addr), PID (X.blk s H scope (compEnvC scope cl C X.env) fp) tgx iter1 ti1)
    (hg1 : ∀ (s : Shared) (H : Hp) (C : Addr) (cl : List (Str × Addr)) (fp : List Addr), PGC (X.blk s H scope (compEnvC scope cl C X.env) fp) tgx vs1 tg1) (ht1 : ∀ (s : Shared) (H : Hp) (C : Addr) (cl : List (Str × Addr)) (fp : List Addr), PBs (X.blk s H scope (compEnvC scope cl C X.env) fp) ifs1 tt1)
    (he : ∀ (s : Shared) (H : Hp) (C : Addr) (cl : List (Str × Addr)) (fp : List Addr), PD (X.blk s H scope (compEnvC scope cl C X.env) fp) elt te) (hv : ∀ i ∈ vs1, i ∈ own.map (·.2) := by decide)
    (hs : ∀ x, foldedSetIterable iter X.env x = pure x := by intro _; rfl) (hs1 : ∀ env x, foldedSetIterable iter1 env x = pure x := by intro _ _; rfl) : PD X (.ListComp elt [⟨tg, iter, ifs, 0⟩, ⟨tgx, iter1, ifs1, 0⟩] scope pos) (tdLc2 ti tgd tt ti1 tg1 tt1 te (own.map (·.2)) vs1) := by
  have mo : MonoL2 tgd tt ti1 tg1 tt1 te := ⟨(hg X.s_0 X.H_0 0 [] []).mono, (ht X.s_0 X.H_0 0 [] []).mono, (hi1 X.s_0 X.H_0 0 [] []).mono, (hg1 X.s_0 X.H_0 0 [] []).mono, (ht1 X.s_0 X.H_0 0 [] []).mono, (he X.s_0 X.H_0 0 [] []).mono⟩
  exact ⟨PE.imp (pe_lc2 hc hN hi.run ok hv (fun s H C cl fp => (hg s H C cl fp).run) (fun s H C cl fp => (ht s H C cl fp).run) (fun s H C cl fp => (hi1 s H C cl fp).run) (fun s H C cl fp => (hg1 s H C cl fp).run) (fun s H C cl fp => (ht1 s H C cl fp).run) (fun s H C cl fp => (he s H C cl fp).run) hs hs1) fun σ H Q q => tdLc2_ok hv hi.mono mo q, tdLc2_mono hi.mono mo⟩
end
end DL
/-! DL22: further methods. -/
namespace DL
open PySem PySem.Spec PyProof.Rows L2
/-- a list of one's own, or what a slot holds -/
def lsOf (Γ : G) : SV → (List D → Prop) → Prop
  | .ow _ (.lst es), k => k es
  | .bw i, k => match Γ[i]? with
    | some (.ow _ (.lst es)) => k es
    | _ => False
  | _, _ => False
theorem lsOf_mono {Γ : G} {r : SV} {k k' : List D → Prop} (h : ∀ d, k d → k' d) (q : lsOf Γ r k) : lsOf Γ r k' := by
  unfold lsOf at q ⊢
  split at q <;> first | exact h _ q | (split at q <;> first | exact h _ q | exact q) | exact q
theorem lsOf_ok {K : PySem.W.Frag} {H H0 : Hp} {σ : Sl} {Γ Γ0 : G} {r : SV} {v : V} {k : List D → Prop} (g : RG K H σ Γ) (q : Res K H0 σ Γ0 H Γ v r) (h : lsOf Γ r k) : ∃ a es vs, v = .ref a ∧ H a = some (.lst vs) ∧ Reps K H es vs ∧ k es := by
  unfold lsOf at h
  split at h
  · obtain ⟨rfl, ⟨vs, e, rs⟩, _, _⟩ := q
    exact ⟨_, _, vs, rfl, e, rs, h⟩
  · split at h
    · rename_i e
      obtain ⟨e1, vs, e2, rs⟩ := g.ow _ _ _ e
      have e3 := (show σ[_]? = some (some v) from q).symm.trans e1
      cases e3
      exact ⟨_, _, vs, rfl, e2, rs, h⟩
    · exact h.elim
  · exact h.elim
def tdExt (i : Nat) (t : TD) : TD := fun Γ Q => match Γ[i]? with
  | some (.ow _ (.lst _)) => t Γ fun r Γ1 => lsOf Γ1 r fun es => (match Γ1[i]? with
    | some (.ow p (.lst xs)) => xs.length + es.length ≤ sizeLine ∧ Q (.fz .none) (Γ1.set i (.ow p (.lst (xs ++ es))))
    | _ => False)
  | _ => False
section
variable {X : Cx} {x : Str} {e : Expr} {t : TD} {p apos cpos : Pos}
theorem pd_ext (i : Nat) (ho : PE X (.Name x p) (tVar i)) (ha : PD X e t)
    (hbase : attributeBase (.Name x p) "extend" X.env (eval (.Name x p) X.env) = eval (.Name x p) X.env := by rfl)
    (hfew : ((backTo cpos (starEach [e] X.env)).all (fun x => !x.1) && (backToKw cpos (keywordEach [] X.env)).all (fun x => x.1.isSome) && decide ([e].length + ([] : List Keyword).length + (if ([] : List Keyword).isEmpty then 0 else 1) < 30)) = true := by rfl)
    (hline : (apos.endLine == cpos.line) = true := by rfl) (hs : starEach [e] X.env = (false, eval e X.env) :: starEach [] X.env := by rfl) (hpl : (backTo cpos (starEach [] X.env)).any (·.1) = false := by rfl) :
    PD X (.Call (.Attribute (.Name x p) "extend" apos) [e] [] cpos) (tdExt i t) := by
  refine ⟨PE.imp (pe_bm PySem.F.plainAttrs_list PySem.F.slot_list_extend PySem.F.type_list_extend mt_extend ho (pa_cons ha.run pa_nil hs) hbase hfew hline hs hpl) fun σ H Q ⟨Γ, g0, q⟩ => ?_, fun Γ Q Q' hq q => ?_⟩
  · unfold tdExt at q
    split at q
    · rename_i p0 o0 e0
      obtain ⟨z1, z2⟩ := g0.ow _ _ _ e0
      refine ⟨.ref p0, z1, z2.ty rfl (by decide), Γ, g0, ha.mono _ _ _ (fun r Γ1 q v H1 a1 r1 => ?_) q⟩
      obtain ⟨b, es, us, rfl, hb, rb, q⟩ := lsOf_ok a1.rg r1 q
      split at q
      · rename_i p1 xs e1
        obtain ⟨w1, ws, w2, rw'⟩ := a1.rg.ow _ _ _ e1
        rw [z1] at w1
        cases w1
        have im : Imm H1 (upd H1 p0 (.lst (ws ++ us))) := Imm.upd (.inr (by rw [w2]; trivial))
        exact ⟨p0, b, ws, us, rfl, rfl, w2, hb, by rw [rw'.len, rb.len]; exact q.1, q.2 .non _ (aft_upd g0 a1 e1 upd_k im ⟨_, upd_same, (rw'.append rb).imm im⟩) rfl⟩
      · exact q.elim
    · exact q.elim
  · unfold tdExt at q ⊢
    split at q
    · refine ha.mono _ _ _ (fun r Γ1 => lsOf_mono fun es q => ?_) q
      split at q
      · exact ⟨q.1, hq _ _ q.2⟩
      · exact q
    · exact q
end
end DL
/-! DL23: the union of two sets of small ints. -/
namespace SetOr
open PySem PySem.Spec PyProof.Rows L2
def Sml (h : Int) : Prop := 0 ≤ h ∧ h < 15
theorem nodup_sub {α : Type} [DecidableEq α] : ∀ {xs ys : List α}, xs.Nodup → (∀ x ∈ xs, x ∈ ys) → xs.length ≤ ys.length
  | [], _, _, _ => Nat.zero_le _
  | x :: xs, ys, h, s => by
    rw [List.nodup_cons] at h
    have hx := s x List.mem_cons_self
    have := nodup_sub (xs := xs) (ys := ys.erase x) h.2 fun z hz => (List.mem_erase_of_ne (by rintro rfl; exact h.1 hz)).mpr (s z (List.mem_cons_of_mem _ hz))
    rw [List.length_erase_of_mem hx] at this
    have := List.length_pos_of_mem hx
    rw [List.length_cons]
    omega
theorem bits_sml {h : Int} (s : Sml h) : SetTable.bits h = h.toNat := by
  unfold SetTable.bits
  obtain ⟨a, b⟩ := s
  rw [Int.emod_eq_of_lt a (by omega)]
theorem free_own {m : Nat} (hm : 15 ≤ m) {owner : Array (Option Nat)} {h : Int} (s : Sml h) (e : oAt owner h.toNat = none) :
    SetTable.layClean.free m owner (SetTable.turns m) (SetTable.bits h % (m + 1)) (SetTable.bits h) = some h.toNat := by
  rw [bits_sml s]
  obtain ⟨a, b⟩ := s
  have e1 : h.toNat % (m + 1) = h.toNat := Nat.mod_eq_of_lt (by omega)
  rw [e1, show SetTable.turns m = (m + 14) + 1 from rfl, free_succ]
  have g := runEnd_ge m h.toNat
  rw [find_range (k := 0) (fun k => (oAt owner (h.toNat + k)).isNone) (by omega) (by show (oAt owner (h.toNat + 0)).isNone = true; rw [Nat.add_zero, e]; rfl) (fun k' z => absurd z (Nat.not_lt_zero _))]
  show some (h.toNat + 0) = _
  rw [Nat.add_zero]
structure Dir (m : Nat) (done : List Int) (owner : Array (Option Nat)) : Prop where
  sz : owner.size = m + 1
  at_ : ∀ j k, j ≤ m → (oAt owner j = some k ↔ done[k]? = some (j : Int))
theorem Dir.init (m : Nat) : Dir m [] (Array.replicate (m + 1) none) := ⟨by simp, fun j k hj => by rw [oAt_init hj]; simp⟩
theorem Dir.step {m : Nat} (hm : 15 ≤ m) {done : List Int} {owner : Array (Option Nat)} (W : Dir m done owner) {h : Int} (s : Sml h) (n : h ∉ done) :
    oAt owner h.toNat = none ∧ Dir m (done ++ [h]) (owner.setIfInBounds h.toNat (some done.length)) := by
  obtain ⟨a, b⟩ := s
  have hj : h.toNat ≤ m := by omega
  have eh : ((h.toNat : Nat) : Int) = h := by omega
  refine ⟨?_, by rw [Array.size_setIfInBounds]; exact W.sz, fun j k hj' => ?_⟩
  · cases e : oAt owner h.toNat with
    | none => rfl
    | some k =>
      have := (W.at_ _ _ hj).mp e
      rw [eh] at this
      exact absurd (List.mem_of_getElem? this) n
  · by_cases c : j = h.toNat
    · rw [c, oAt_set_self _ (by rw [W.sz]; omega), eh]
      constructor
      · intro z
        cases z
        rw [List.getElem?_append_right (Nat.le_refl _), Nat.sub_self]; rfl
      · intro z
        rcases Nat.lt_or_ge k done.length with l | l
        · rw [List.getElem?_append_left l] at z
          exact absurd (List.mem_of_getElem? z) n
        · rw [List.getElem?_append_right l] at z
          have : k - done.length = 0 := by
            cases q : k - done.length with
            | zero => rfl
            | succ r => rw [q] at z; simp at z
          rw [show k = done.length by omega]
    · rw [oAt_set_ne _ c, W.at_ j k hj']
      rcases Nat.lt_or_ge k done.length with l | l
      · rw [List.getElem?_append_left l]
      · rw [List.getElem?_append_right l, List.getElem?_eq_none l]
        constructor
        · intro z; cases z
        · intro z
          cases q : k - done.length with
          | zero =>
            rw [q] at z
            have : h = (j : Int) := Option.some.inj z
            exact absurd (by omega) c
          | succ r => rw [q] at z; simp at z
theorem fold_dir {m : Nat} (hm : 15 ≤ m) : ∀ (rest done : List Int) (owner : Array (Option Nat)), Dir m done owner → (∀ h ∈ rest, Sml h) → (done ++ rest).Nodup →
    ∃ owner', rest.foldl (stepF m) (some (owner, done.length)) = some (owner', (done ++ rest).length) ∧ Dir m (done ++ rest) owner'
  | [], done, owner, W, _, _ => ⟨owner, by rw [List.append_nil]; rfl, by rw [List.append_nil]; exact W⟩
  | h :: rest, done, owner, W, s, n => by
    have hn : h ∉ done := fun z => (List.nodup_append.mp n).2.2 h z h List.mem_cons_self rfl
    have sh := s h List.mem_cons_self
    obtain ⟨e, W'⟩ := W.step hm sh hn
    have ea : done ++ [h] ++ rest = done ++ h :: rest := by simp
    obtain ⟨owner', f, W2⟩ := fold_dir hm rest (done ++ [h]) _ W' (fun x hx => s x (List.mem_cons_of_mem _ hx)) (by rw [ea]; exact n)
    rw [ea, show (done ++ [h]).length = done.length + 1 by simp] at f
    rw [ea] at W2
    refine ⟨owner', ?_, W2⟩
    rw [List.foldl_cons, stepF_some (free_own hm sh e)]
    exact f
theorem layClean_dir {m : Nat} (hm : 15 ≤ m) {hs : Array Int} (s : ∀ h ∈ hs.toList, Sml h) (n : hs.toList.Nodup) : ∃ owner, SetTable.layClean m hs = some owner ∧ Dir m hs.toList owner := by
  obtain ⟨owner, f, W⟩ := fold_dir hm hs.toList [] _ (Dir.init m) s (by simpa using n)
  rw [List.nil_append] at W
  refine ⟨owner, ?_, W⟩
  rw [layClean_eq]
  have f' : hs.toList.foldl (stepF m) (some (Array.replicate (m + 1) none, 0)) = some (owner, ([] ++ hs.toList).length) := f
  rw [f']; rfl
theorem laid_eq (M fg mv : Nat) (ld pl : Bool) (hs : Array Int) : SetTable.laid M fg mv ld pl hs = (SetTable.layClean M hs).bind fun owner =>
    some ({ mask := M, place := ((liveOf M owner).map (·.1)).toArray, dummies := #[], finger := fg, led := ld, moves := mv, plain := pl }, ((liveOf M owner).map (·.2)).toArray) := rfl
structure Laid (hs : Array Int) (M : Nat) (ld : Bool) (t' : SetTable) (order : Array Nat) : Prop where
  perm : order.toList.Perm (List.range hs.size)
  ris : Ris t'.place.toList
  sz : t'.place.size = hs.size
  mask : t'.mask = M
  led : t'.led = ld
  dm : t'.dummies = #[]
theorem laid_ok (M fg mv : Nat) (ld pl : Bool) {hs : Array Int} (hM : (M = 7 ∧ hs.size ≤ 7) ∨ 15 ≤ M) (s : ∀ h ∈ hs.toList, Sml h) (n : hs.toList.Nodup) :
    ∃ t' order, SetTable.laid M fg mv ld pl hs = some (t', order) ∧ Laid hs M ld t' order := by
  rcases hM with ⟨rfl, hn⟩ | hm
  · obtain ⟨t', order, e, p, T, em, el, ep, ed⟩ := relaid_ok { mask := 7, place := #[], dummies := #[], finger := fg, led := ld, moves := mv, plain := pl } (hs := hs) (wanted := 0) (M := 7) (by decide) (.inl rfl) hn
    refine ⟨t', order, e, p, T.ris, ?_, em, el, ed⟩
    rw [T.sz, List.length_map, p.length_eq, List.length_range]
  · obtain ⟨owner, e, W⟩ := layClean_dir hm s n
    have ris := ris_live (fun j => owner.getD j none) (List.range (M + 1)) (by
      unfold Ris
      exact List.pairwise_lt_range)
    have r1 : Ris ((liveOf M owner).map (·.1)) := ris.1
    have nd1 : ((liveOf M owner).map (·.1)).Nodup := r1.imp fun h => Nat.ne_of_lt h
    have mem2 : ∀ k, k ∈ (liveOf M owner).map (·.2) ↔ k < hs.size := fun k => by
      rw [List.mem_map]
      constructor
      · rintro ⟨⟨j, k'⟩, hq, rfl⟩
        obtain ⟨b1, b2⟩ := (mem_live W.sz).1 hq
        have := (W.at_ j k' b1).mp b2
        have := (List.getElem?_eq_some_iff.mp this).1
        simpa using this
      · intro hk
        have hk2 : k < hs.toList.length := by simpa using hk
        have e0 := List.getElem?_eq_getElem hk2
        obtain ⟨s0, s1⟩ := s _ (List.getElem_mem hk2)
        refine ⟨(hs.toList[k].toNat, k), (mem_live W.sz).2 ⟨by omega, (W.at_ _ _ (by omega)).mpr ?_⟩, rfl⟩
        rw [e0]
        congr 1
        omega
    have nd2 : ((liveOf M owner).map (·.2)).Nodup := by
      have nd0 : (liveOf M owner).Nodup := List.Pairwise.of_map (·.1) (fun _ _ hne e => hne (congrArg _ e)) nd1
      refine List.pairwise_map.mpr (List.Pairwise.imp_of_mem (fun {p q} hp hq hne ez => hne ?_) nd0)
      obtain ⟨j, k⟩ := p
      obtain ⟨j', k'⟩ := q
      obtain rfl : k = k' := ez
      obtain ⟨b1, b2⟩ := (mem_live W.sz).1 hp
      obtain ⟨c1, c2⟩ := (mem_live W.sz).1 hq
      have x := (W.at_ j k b1).mp b2
      have y := (W.at_ j' k c1).mp c2
      rw [x] at y
      have y := Option.some.inj y
      have : j = j' := by omega
      rw [this]
    have hlen : ((liveOf M owner).map (·.2)).length = hs.size := by
      have a := nat_nodup_len _ (List.range hs.size) nd2 fun k hk => List.mem_range.mpr ((mem2 k).mp hk)
      have b := nat_nodup_len (List.range hs.size) ((liveOf M owner).map (·.2)) List.nodup_range fun k hk => (mem2 k).mpr (List.mem_range.mp hk)
      rw [List.length_range] at a b
      omega
    refine ⟨_, _, by rw [laid_eq, e]; rfl, perm_range hs.size _ hlen fun k hk => (mem2 k).mpr hk, r1, ?_, rfl, rfl, rfl⟩
    show ((liveOf M owner).map (·.1)).toArray.size = hs.size
    rw [List.size_toArray, List.length_map, ← hlen, List.length_map]
theorem hashInt_sml {k : Int} (s : Sml k) : hashInt k = k := by
  obtain ⟨a, b⟩ := s
  have : ∀ n : Fin 16, hashInt (n.val : Int) = (n.val : Int) := by decide +kernel
  have := this ⟨k.toNat, by omega⟩
  simp only at this
  rw [show ((k.toNat : Nat) : Int) = k by omega] at this
  exact this
theorem size_above : ∀ w : Nat, w ≤ 200 → (SetTable.sizeAbove w = 8 ∧ w < 8) ∨ (16 ≤ SetTable.sizeAbove w ∧ w < SetTable.sizeAbove w ∧ SetTable.sizeAbove w ≤ 256) := by
  have : ∀ w : Fin 201, (SetTable.sizeAbove w.val = 8 ∧ w.val < 8) ∨ (16 ≤ SetTable.sizeAbove w.val ∧ w.val < SetTable.sizeAbove w.val ∧ SetTable.sizeAbove w.val ≤ 256) := by decide +kernel
  intro w hw
  exact this ⟨w, by omega⟩
theorem hashes_of {es : Array (Int × Value)} (g : ∀ e ∈ es.toList, GoodE e) (r : ∀ e ∈ es.toList, Sml (keyOf e)) : (es.map (·.1)).toList = es.toList.map keyOf := by
  rw [Array.toList_map]
  refine List.map_congr_left fun e he => ?_
  obtain ⟨k, tk, h1, h2⟩ := g e he
  have := r e he
  unfold keyOf at this ⊢
  rw [h1] at this ⊢
  rw [h2]
  exact hashInt_sml this
theorem order_perm {es : Array (Int × Value)} {order : Array Nat} (p : order.toList.Perm (List.range es.size)) : (order.filterMap (es[·]?)).toList.Perm es.toList := by
  rw [Array.toList_filterMap]
  exact (p.filterMap _).trans (by rw [filterMap_getElem?_range])
section
variable {P : Program} {w : World} {A : Around} {E : Value → Shared → Prop} {s : Shared}
structure SX (w : World) (h : Heap) (a : Addr) (S : Int → Bool) (es : Array (Int × Value)) (ep : Nat) (t : SetTable) : Prop where
  o : ∃ o, h.get? a = some o ∧ o.ExactSet ∧ o.data = .set es ep t
  g : ∀ e ∈ es.toList, GoodE e
  nd : (es.toList.map keyOf).Nodup
  m : ∀ k, S k = true ↔ k ∈ es.toList.map keyOf
  b : es.size < scanBound
  f : t.fits es.size = true
  r : Ris t.place.toList
  l : w.params.followText "set-order" = true ∨ t.led = true
theorem SX.setR {h : Heap} {a : Addr} {S : Int → Bool} {es : Array (Int × Value)} {ep : Nat} {t : SetTable} (x : SX w h a S es ep t) : SetR w h a S es.size := by
  obtain ⟨o, h1, h2, h3⟩ := x.o
  exact ⟨o, es, ep, t, h1, h2, h3, x.g, x.nd, x.m, x.b, x.f, rfl, x.r, x.l⟩
theorem sx_of {h : Heap} {a : Addr} {S : Int → Bool} {n : Nat} (R : SetR w h a S n) : ∃ es ep t, SX w h a S es ep t ∧ es.size = n := by
  obtain ⟨o, es, ep, t, h1, h2, h3, g, nd, m, b, f, e, r, l⟩ := R
  exact ⟨es, ep, t, ⟨⟨o, h1, h2, h3⟩, g, nd, m, b, f, r, l⟩, e⟩
theorem SX.at {h h' : Heap} {a : Addr} {S : Int → Bool} {es : Array (Int × Value)} {ep : Nat} {t : SetTable} (x : SX w h a S es ep t) (k : h'.get? a = h.get? a) : SX w h' a S es ep t :=
  ⟨let ⟨o, h1, h2⟩ := x.o; ⟨o, k.trans h1, h2⟩, x.g, x.nd, x.m, x.b, x.f, x.r, x.l⟩
theorem SX.sml {h : Heap} {a : Addr} {S : Int → Bool} {es : Array (Int × Value)} {ep : Nat} {t : SetTable} (x : SX w h a S es ep t) (sm : ∀ k, S k = true → Sml k) : (∀ y ∈ (es.map (·.1)).toList, Sml y) ∧ (es.map (·.1)).toList.Nodup := by
  have r : ∀ e ∈ es.toList, Sml (keyOf e) := fun e he => sm _ ((x.m _).mpr (List.mem_map.mpr ⟨e, he, rfl⟩))
  rw [hashes_of x.g r]
  exact ⟨fun y hy => by obtain ⟨e, he, rfl⟩ := List.mem_map.mp hy; exact r e he, x.nd⟩
theorem fits_of {t : SetTable} {n : Nat} (h1 : t.place.size = n) (h2 : t.dummies = #[]) (h3 : n ≤ t.mask) : t.fits n = true := by
  unfold SetTable.fits SetTable.fill
  rw [h2, h1, Bool.and_eq_true, beq_iff_eq, decide_eq_true_eq]
  exact ⟨rfl, h3⟩
variable {a b : Addr} {S S2 : Int → Bool} {es es2 : Array (Int × Value)} {ep ep2 : Nat} {t t2 : SetTable}
/-- what is stored anew -/
theorem SX.store (x : SX w s.heap a S es ep t) {S' : Int → Bool} {es' : Array (Int × Value)} {t' : SetTable} (g : ∀ e ∈ es'.toList, GoodE e) (nd : (es'.toList.map keyOf).Nodup) (m : ∀ k, S' k = true ↔ k ∈ es'.toList.map keyOf) (hb : es'.size < scanBound) (f : t'.fits es'.size = true)
    (r : Ris t'.place.toList) (l : w.params.followText "set-order" = true ∨ t'.led = true) {Q : Unit → Shared → Prop} (hQ : ∀ h', Heap.SameBut a s.heap h' → SX w h' a S' es' (ep + 1) t' → Q () { s with heap := h' }) : wpAny (model P w) A (storeSet a es' t') Q E s := by
  obtain ⟨o, h1, h2, h3⟩ := x.o
  refine wpAny_storeSet_of h1 h3 ?_ (fits_of_scanBound hb)
  exact hQ _ (Heap.SameBut.update ..) ⟨⟨_, store_at h1 h3, ⟨h2.1, h2.2.1, h2.2.2⟩, rfl⟩, g, nd, m, hb, f, r, l⟩
theorem SX.state (x : SX w s.heap a S es ep t) {Q : (Array (Int × Value) × Nat × SetTable) → Shared → Prop} (h : Q (es, ep, t) s) : wpAny (model P w) A (setState a) Q E s := by
  obtain ⟨o, h1, h2, h3⟩ := x.o
  exact wpAny_setState_of h1 h3 x.f h
theorem relay_x (x : SX w s.heap a S es ep t) (sm : ∀ k, S k = true → Sml k) {wanted : Nat} (hw : wanted ≤ 200) (hn : es.size * 2 ≤ wanted) {Q : Unit → Shared → Prop}
    (hQ : ∀ h' es' t', Heap.SameBut a s.heap h' → SX w h' a S es' (ep + 1) t' → es'.size = es.size → t'.dummies = #[] → ((t'.mask = 7 ∧ wanted < 8) ∨ 15 ≤ t'.mask) → Q () { s with heap := h' }) :
    wpAny (model P w) A (setRelay a wanted) Q E s := by
  obtain ⟨y1, y2⟩ := x.sml sm
  have sa := size_above wanted hw
  obtain ⟨t', order, e, L⟩ := laid_ok (SetTable.sizeAbove wanted - 1) t.finger (t.movedTo (SetTable.sizeAbove wanted - 1)) t.led t.plain (hs := es.map (·.1)) (by rw [Array.size_map]; omega) y1 y2
  have hs : (es.map (·.1)).size = es.size := Array.size_map ..
  have p := L.perm
  rw [hs] at p
  have pe := order_perm p
  have hs2 : (order.filterMap (es[·]?)).size = es.size := by rw [← Array.length_toList, pe.length_eq, Array.length_toList]
  have e' : t.relaid (es.map (·.1)) wanted = some (t', order) := e
  rw [setRelay_eq]
  refine wpAny_bind (x.state ?_)
  dsimp only
  refine wp_if_neg (by rw [sizeLine_eq]; omega) ?_
  try refine wpAny_bind (wpAny_pure ?_)
  rw [e']
  dsimp only
  refine wpAny_bind ?_
  refine wp_if_neg (by rw [hs2]; simp) ?_
  try refine wpAny_bind (wpAny_pure ?_)
  refine wpAny_pure ?_
  dsimp only
  refine x.store (S' := S) (fun e he => x.g e (pe.mem_iff.mp he)) ((pe.map keyOf).nodup_iff.mpr x.nd) (fun k => (x.m k).trans (pe.map keyOf).mem_iff.symm) (by rw [hs2]; exact x.b) (fits_of (by rw [L.sz, hs, hs2]) L.dm (by rw [hs2, L.mask]; omega)) L.ris (x.l.imp id fun z => by rw [L.led]; exact z) fun h' sb x' => ?_
  exact hQ h' _ _ sb x' hs2 L.dm (by rw [L.mask]; omega)
def Zer (n more : Nat) (t : SetTable) : Prop := n = 0 → t.dummies = #[] ∧ ((t.mask = 7 ∧ more ≤ 7) ∨ 15 ≤ t.mask)
theorem room_x (x : SX w s.heap a S es ep t) (sm : ∀ k, S k = true → Sml k) {more : Nat} (hm : es.size + more ≤ 100) (d0 : Zer es.size 0 t) {Q : Unit → Shared → Prop}
    (hQ : ∀ h' es' ep' t', Heap.SameBut a s.heap h' → SX w h' a S es' ep' t' → es'.size = es.size → Zer es.size more t' → Q () { s with heap := h' }) :
    wpAny (model P w) A (setRoomFor a more) Q E s := by
  have hp : t.place.size = es.size := by
    have := x.f
    unfold SetTable.fits at this
    rw [Bool.and_eq_true, beq_iff_eq] at this
    exact this.1
  unfold setRoomFor
  refine wpAny_bind (x.state ?_)
  dsimp only
  cases e : t.roomFor more with
  | some wanted =>
    dsimp only
    have ew : wanted = (t.place.size + more) * 2 := by
      unfold SetTable.roomFor at e
      split at e
      · exact (Option.some.inj e).symm
      · cases e
    refine relay_x x sm (by omega) (by omega) fun h' es' t' sb x' hs dm hmask => hQ h' es' _ t' sb x' hs fun z => ⟨dm, hmask.imp (fun q => ⟨q.1, by omega⟩) id⟩
  | none =>
    dsimp only
    refine wpAny_pure (hQ s.heap es ep t (Heap.SameBut.refl _ _) x rfl fun z => ?_)
    obtain ⟨d1, d2⟩ := d0 z
    refine ⟨d1, d2.imp (fun q => ⟨q.1, ?_⟩) id⟩
    unfold SetTable.roomFor SetTable.fill at e
    split at e
    · cases e
    · rename_i n
      rw [d1, hp, z, q.1] at n
      simp only [List.size_toArray, List.length_nil] at n
      omega
theorem setMerge_eq (s o : Addr) (each : Sem Unit) : setMerge s o each = (do
  if s == o then return
  let (eo, epoch, to) ← setState o
  if eo.isEmpty then return
  setRoomFor s eo.size
  let (_, _, ts) ← setState s
  match ts.road to with
  | .slotForSlot => storeSet s eo { to with finger := ts.finger, led := ts.led && to.led, moves := ts.moves, plain := ts.plain && to.plain }
  | .clean =>
    let (es, t) ← (do
      let some (t, order) := (SetTable.laid ts.mask ts.finger ts.moves (led := ts.led && to.led) (plain := ts.plain && to.plain) (eo.map (·.1))) | unsupported "internal:set-table-without-room"
      let es' := order.filterMap (eo[·]?)
      if es'.size != eo.size then unsupported "internal:set-table-lost-an-element"
      pure (es', t) : Sem (Array (Int × Value) × SetTable))
    storeSet s es t
  | .oneByOne =>
    for (h, x) in ← setWalkUnseen o [s] (some s) do
      let _ ← holding [x] (setAddHashed s x h)
      each
      if (← setState o).2.1 != epoch then unsupported "set.changed-during-merge") := by rfl
end
section
variable {P : Program} {w : World} {A : Around} {E : Value → Shared → Prop} {s : Shared}
variable {a b : Addr} {S S2 : Int → Bool} {es es2 : Array (Int × Value)} {ep ep2 : Nat} {t t2 : SetTable}
theorem SX.entries (x : SX w s.heap a S es ep t) {Q : (Array (Int × Value)) → Shared → Prop} (h : Q es s) : wpAny (model P w) A (setEntries a) Q E s := by
  unfold setEntries
  exact wpAny_bind (x.state (wpAny_pure h))
theorem quiet_x (x : SX w s.heap a S es ep t) (y : SX w s.heap b S2 es2 ep2 t2) {Q : Bool → Shared → Prop} (h : Q true s) : wpAny (model P w) A (setsQuiet [b, a]) Q E s := by
  unfold setsQuiet
  refine wpAny_bind ?_
  refine wpAny_forIn_list _ (fun l z s' => z = (none, ()) ∧ s' = s ∧ ∀ c ∈ l, ∃ S es ep t, SX w s.heap c S es ep t) _ (fun c rest z s' I => ?_) (fun z s' I => ?_) _ _ ⟨rfl, rfl, fun c hc => ?_⟩
  · obtain ⟨rfl, rfl, hI⟩ := I
    obtain ⟨S', es', ep', t', x'⟩ := hI c List.mem_cons_self
    refine wpAny_bind (x'.entries ?_)
    refine wpAny_bind ?_
    refine PySem.MeetsSeq2.wpAny_forIn_array _ (fun l z s'' => z = (none, ()) ∧ s'' = s' ∧ ∀ e ∈ l, GoodE e) _ (fun e rest z s'' I => ?_) (fun z s'' I => ?_) _ _ ⟨rfl, rfl, x'.g⟩
    · obtain ⟨rfl, rfl, g⟩ := I
      obtain ⟨h0, v⟩ := e
      obtain ⟨k, tk, e1, e2⟩ := g _ List.mem_cons_self
      simp only at e1
      subst e1
      exact wpAny_pure ⟨rfl, rfl, fun e he => g e (List.mem_cons_of_mem _ he)⟩
    · obtain ⟨rfl, rfl, g⟩ := I
      exact wpAny_pure ⟨rfl, rfl, fun c hc => hI c (List.mem_cons_of_mem _ hc)⟩
  · obtain ⟨rfl, rfl, _⟩ := I
    exact wpAny_pure h
  · rcases List.mem_cons.mp hc with rfl | hc
    · exact ⟨_, _, _, _, y⟩
    · rw [List.mem_singleton.mp hc]; exact ⟨_, _, _, _, x⟩
theorem walk1_x (y : SX w s.heap b S2 es2 ep2 t2) {Q : Array (Int × Value) → Shared → Prop} (hQ : ∀ l d, l.toList.Perm es2.toList → Q l { s with drawn := d }) : wpAny (model P w) A (setWalk b) Q E s := by
  unfold setWalk
  refine wpAny_bind (y.state ?_)
  dsimp only
  refine wpAny_bind (wpAny_byText ?_)
  cases hb : w.params.followText "set-order" with
  | true =>
    refine wp_if_pos rfl ?_
    exact wpAny_bind (wpAny_askSetting (wpAny_pure (hQ _ s.drawn (pick_perm _ _))))
  | false =>
    refine wp_if_neg Bool.false_ne_true ?_
    try refine wpAny_bind (wpAny_pure ?_)
    have hled : t2.led = true := y.l.resolve_left (by rw [hb]; exact Bool.false_ne_true)
    cases hdr : (!t2.plain && decide (es2.size > 1)) with
    | true =>
      refine wp_if_pos (by show (!t2.plain && decide (es2.size > 1)) = true; exact hdr) ?_
      refine wpAny_bind (drawOrder_at _ _ _ _ (Nat.le_of_eq Array.length_toList) fun ys d hp => wpAny_pure (hQ _ d (by simpa using hp)))
    | false =>
      refine wp_if_neg (by show ¬ (!t2.plain && decide (es2.size > 1)) = true; rw [hdr]; exact Bool.false_ne_true) ?_
      try refine wpAny_bind (wpAny_pure ?_)
      refine wpAny_bind (wpAny_of_eq (a := ()) ?_ (wpAny_pure (hQ es2 s.drawn (List.Perm.refl _))))
      show (if (!t2.led && decide (es2.size > 1)) = true then unsupported "set:maker-not-led" else pure ()) = pure ()
      rw [hled] <;> rfl
theorem walk_x (x : SX w s.heap a S es ep t) (y : SX w s.heap b S2 es2 ep2 t2) (hab : a ≠ b) {Q : Array (Int × Value) → Shared → Prop}
    (hQ : ∀ l h' ep' t' d, l.toList.Perm es2.toList → Heap.SameBut a s.heap h' → SX w h' a S es ep' t' → Q l { s with heap := h', drawn := d }) : wpAny (model P w) A (setWalkUnseen b [a] (some a)) Q E s := by
  have stay : wpAny (model P w) A (setWalk b) Q E s := walk1_x y fun l d p => hQ l s.heap ep t d p (Heap.SameBut.refl _ _) x
  unfold setWalkUnseen
  refine wpAny_bind (y.state ?_)
  dsimp only
  refine wpAny_bind (wpAny_byText ?_)
  split
  · exact stay
  · rename_i c
    try refine wpAny_bind (wpAny_pure ?_)
    refine wpAny_bind (quiet_x x y ?_)
    refine wp_if_neg (by simp) ?_
    try refine wpAny_bind (wpAny_pure ?_)
    refine wpAny_bind (wpAny_rule ?_)
    have hb : w.params.followText "set-order" = false := by
      cases e : w.params.followText "set-order" with
      | false => rfl
      | true => rw [e] at c; simp at c
    have hled : t2.led = true := y.l.resolve_left (by rw [hb]; exact Bool.false_ne_true)
    refine wpAny_bind (x.state ?_)
    dsimp only
    split
    · refine wpAny_bind (x.store (S' := S) (t' := { t with led := t.led && t2.led, plain := t.plain && t2.plain }) x.g x.nd x.m x.b ?_ x.r (x.l.elim .inl fun z => .inr (by show (t.led && t2.led) = true; rw [z, hled]; rfl)) fun h' sb x' => ?_)
      · have := x.f
        unfold SetTable.fits SetTable.fill at this ⊢
        exact this
      · exact wpAny_pure (hQ es2 h' _ _ s.drawn (List.Perm.refl _) sb x')
    · exact wpAny_pure (hQ es2 s.heap ep t s.drawn (List.Perm.refl _) (Heap.SameBut.refl _ _) x)
theorem SX.iff {h : Heap} (x : SX w h a S es ep t) {S' : Int → Bool} (e : ∀ k, S' k = S k) : SX w h a S' es ep t := by
  have q : S' = S := funext e
  rw [q]; exact x
theorem merge_x (x : SX w s.heap a S es ep t) (y : SX w s.heap b S2 es2 ep2 t2) (hab : a ≠ b) (sm : ∀ k, S k = true → Sml k) (sm2 : ∀ k, S2 k = true → Sml k) (hsz : es.size + es2.size ≤ 100) (d0 : Zer es.size 0 t) {each : Sem Unit}
    (he : ∀ (s' : Shared) (Q : Unit → Shared → Prop), s'.heap.get? b = s.heap.get? b → Q () s' → wpAny (model P w) A each Q E s') {Q : Unit → Shared → Prop}
    (hQ : ∀ h' es' ep' t' d, Heap.SameBut a s.heap h' → SX w h' a (fun k => S k || S2 k) es' ep' t' → es'.size ≤ es.size + es2.size → Zer es'.size 0 t' → Q () { s with heap := h', drawn := d }) :
    wpAny (model P w) A (setMerge a b each) Q E s := by
  rw [setMerge_eq]
  refine wp_if_neg (by simpa using hab) ?_
  try refine wpAny_bind (wpAny_pure ?_)
  refine wpAny_bind (y.state ?_)
  dsimp only
  by_cases hemp : es2.isEmpty = true
  · refine wp_if_pos hemp ?_
    have z2 : es2.toList = [] := by simpa using hemp
    refine wpAny_pure (hQ s.heap es ep t s.drawn (Heap.SameBut.refl _ _) (x.iff fun k => ?_) (by omega) d0)
    cases e : S2 k with
    | false => simp
    | true =>
      have := (y.m k).mp e
      rw [z2] at this
      cases this
  · refine wp_if_neg hemp ?_
    try refine wpAny_bind (wpAny_pure ?_)
    have hpos : 0 < es2.size := by
      rcases Nat.eq_zero_or_pos es2.size with z | z
      · exact absurd (by simpa using z) hemp
      · exact z
    refine wpAny_bind (room_x x sm hsz d0 fun h1 es1 ep1 t1 sb1 x1 hs1 z1 => ?_)
    have y1 : SX w h1 b S2 es2 ep2 t2 := y.at (sb1.2 b (Ne.symm hab))
    refine wpAny_bind (SX.state (s := { s with heap := h1 }) x1 ?_)
    dsimp only
    have hpl : t1.place.size = es1.size := by
      have := x1.f
      unfold SetTable.fits at this
      rw [Bool.and_eq_true, beq_iff_eq] at this
      exact this.1
    by_cases h0 : es.size = 0
    · have e1 : es1.toList = [] := by
        have : es1.size = 0 := by omega
        simpa using this
      have S0 : ∀ k, S k = false := fun k => by
        cases e : S k with
        | false => rfl
        | true =>
          have := (x1.m k).mp e
          rw [e1] at this
          cases this
      obtain ⟨dm, mk⟩ := z1 h0
      have fl : t1.fill = 0 := by
        unfold SetTable.fill
        rw [dm, hpl, hs1, h0]
        rfl
      have hm : ∀ k, (S k || S2 k) = true ↔ k ∈ es2.toList.map keyOf := fun k => by rw [S0, Bool.false_or]; exact y.m k
      have hl : w.params.followText "set-order" = true ∨ (t1.led && t2.led) = true := by
        rcases x1.l with z | z
        · exact .inl z
        · rcases y.l with u | u
          · exact .inl u
          · exact .inr (by rw [z, u]; rfl)
      have pos0 : ∀ t' : SetTable, Zer es2.size 0 t' := fun t' z => absurd z (by omega)
      by_cases same : (t1.mask == t2.mask && t2.dummies.isEmpty) = true
      · have rd : t1.road t2 = .slotForSlot := by
          unfold SetTable.road
          rw [fl, if_neg (by simp), if_pos same]
        rw [rd]
        dsimp only
        refine SX.store (s := { s with heap := h1 }) (t' := { t2 with finger := t1.finger, led := t1.led && t2.led, moves := t1.moves, plain := t1.plain && t2.plain }) x1 y.g y.nd hm y.b ?_ y.r hl fun h' sb x' => ?_
        · have := y.f
          unfold SetTable.fits SetTable.fill at this ⊢
          exact this
        · exact hQ h' _ _ _ s.drawn (sb1.trans sb) x' (by omega) (pos0 _)
      · have rd : t1.road t2 = .clean := by
          unfold SetTable.road
          rw [fl, if_neg (by simp), if_neg same]
        rw [rd]
        dsimp only
        obtain ⟨y1', y2'⟩ := y.sml sm2
        obtain ⟨t', order, e, L⟩ := laid_ok t1.mask t1.finger t1.moves (t1.led && t2.led) (t1.plain && t2.plain) (hs := es2.map (·.1)) (by rw [Array.size_map]; exact mk) y1' y2'
        have hs : (es2.map (·.1)).size = es2.size := Array.size_map ..
        have p := L.perm
        rw [hs] at p
        have pe := order_perm p
        have hs2 : (order.filterMap (es2[·]?)).size = es2.size := by rw [← Array.length_toList, pe.length_eq, Array.length_toList]
        rw [e]
        dsimp only
        refine wpAny_bind ?_
        refine wp_if_neg (by rw [hs2]; simp) ?_
        try refine wpAny_bind (wpAny_pure ?_)
        refine wpAny_pure ?_
        dsimp only
        have hk : es2.size ≤ t1.mask := by
          rcases mk with ⟨q1, q2⟩ | q
          · omega
          · have a1 : (es2.toList.map keyOf).length ≤ ((List.range 15).map fun n : Nat => (n : Int)).length := by
              refine nodup_sub y.nd fun k hk => ?_
              obtain ⟨k0, k1⟩ := sm2 k ((y.m k).mpr hk)
              exact List.mem_map.mpr ⟨k.toNat, List.mem_range.mpr (by omega), by omega⟩
            simp only [List.length_map, List.length_range, Array.length_toList] at a1
            omega
        refine SX.store (s := { s with heap := h1 }) (t' := t') x1 (fun e he => y.g e (pe.mem_iff.mp he)) ((pe.map keyOf).nodup_iff.mpr y.nd) (fun k => (hm k).trans (pe.map keyOf).mem_iff.symm) (by rw [hs2]; exact y.b) (fits_of (by rw [L.sz, hs, hs2]) L.dm (by rw [hs2, L.mask]; exact hk)) L.ris (by rw [L.led]; exact hl) fun h' sb x' => ?_
        exact hQ h' _ _ _ s.drawn (sb1.trans sb) x' (by omega) (by rw [hs2]; exact pos0 _)
    · have rd : t1.road t2 = .oneByOne := by
        unfold SetTable.road SetTable.fill
        have h1' : ¬ es1.size = 0 := by omega
        rw [if_pos (by rw [hpl]; exact bne_iff_ne.mpr (by omega))]
      rw [rd]
      dsimp only
      refine wpAny_bind (walk_x (s := { s with heap := h1 }) x1 y1 hab fun l h2 ep2' t2' d p sb2 x2 => ?_)
      have pk := p.map keyOf
      have pl := p.length_eq
      rw [Array.length_toList, Array.length_toList] at pl
      refine wpAny_bind ?_
      refine PySem.MeetsSeq2.wpAny_forIn_array _ (fun rest _ s' => ∃ h' S' c, s' = { s with heap := h', drawn := d } ∧ Heap.SameBut a s.heap h' ∧ SetR w h' a S' c ∧ 1 ≤ c ∧ c + rest.length ≤ es.size + es2.size ∧ (∀ e ∈ rest, GoodE e) ∧ ∀ k, (S' k = true ∨ k ∈ rest.map keyOf) ↔ (S k = true ∨ S2 k = true)) _ (fun e rest z s' I => ?_) (fun z s' I => ?_) _ _ ⟨h2, S, es1.size, rfl, sb1.trans sb2, x2.setR, by omega, by rw [Array.length_toList]; omega, fun e he => y.g e (p.mem_iff.mp he), fun k => by rw [pk.mem_iff, y.m k]⟩
      · obtain ⟨h', S', c, rfl, sb, R, c1, c2, g, mm⟩ := I
        rw [List.length_cons] at c2
        obtain ⟨hh, v⟩ := e
        obtain ⟨k, tk, e1, e2⟩ := g _ List.mem_cons_self
        simp only at e1 e2
        subst e1 e2
        refine wpAny_bind (wpAny_holding ?_)
        refine setR_add_hashed (s := { s with heap := h', drawn := d }) R (Nat.lt_of_le_of_lt (show c + 1 ≤ 100 by omega) (by decide)) fun h3 sb3 R3 => ?_
        have hb3 : h3.get? b = s.heap.get? b := (sb3.2 b (Ne.symm hab)).trans (sb.2 b (Ne.symm hab))
        refine wpAny_bind (he _ _ hb3 ?_)
        refine wpAny_bind (SX.state (s := { s with heap := h3, drawn := d }) (y.at hb3) ?_)
        dsimp only
        refine wp_if_neg (by simp) ?_
        refine wpAny_pure ⟨h3, _, _, rfl, sb.trans sb3, R3, ?_, ?_, fun e he => g e (List.mem_cons_of_mem _ he), fun j => ?_⟩
        · split <;> omega
        · split <;> omega
        · rw [← mm j, List.map_cons, List.mem_cons]
          have : keyOf (hashInt k, Value.int k tk) = k := rfl
          rw [this]
          simp only [Bool.or_eq_true, decide_eq_true_iff]
          constructor
          · rintro ((u | u) | u)
            · exact .inl u
            · exact .inr (.inl u)
            · exact .inr (.inr u)
          · rintro (u | u | u)
            · exact .inl (.inl u)
            · exact .inl (.inr u)
            · exact .inr u
      · obtain ⟨h', S', c, rfl, sb, R, c1, c2, g, mm⟩ := I
        obtain ⟨es', ep', t', x', ez⟩ := sx_of R
        rw [List.length_nil] at c2
        refine wpAny_pure (hQ h' es' ep' t' d sb (x'.iff fun k => ?_) (by omega) fun z => absurd z (by omega))
        have := mm k
        simp only [List.map_nil, List.not_mem_nil, or_false] at this
        rw [Bool.eq_iff_iff, Bool.or_eq_true]
        exact this.symm
end
section
variable {P : Program} {w : World} {A : Around} {E : Value → Shared → Prop} {s : Shared}
variable {a b : Addr} {S S2 : Int → Bool} {n n2 : Nat}
theorem entry_or : entryFor table "set.__or__" = some Builtin.«frozenset.__or__» :=
  entryFor_alias (id' := "frozenset.__or__") (by kernel_rfl) rfl (by decide +kernel) (by kernel_rfl)
theorem or_eq (a b : Addr) : Builtin.«frozenset.__or__» ⟨[.ref a, .ref b], []⟩ = (do
  let (self, other) ← Builtin.Frozenset.slot1 "__or__" ⟨[.ref a, .ref b], []⟩
  let (l, r) := (self, other)
  if !(← (Builtin.Frozenset.isAnySet l <&&> Builtin.Frozenset.isAnySet r)) then rule s!"frozenset.__or__.declined"; return ← ret .notImplemented
  ret (← (do
    let id := s!"frozenset.__or__"
    let result ← Builtin.Frozenset.copyOf (← Builtin.Frozenset.addrOf l)
    if r != .ref (← Builtin.Frozenset.addrOf l) then holding [result] (Builtin.Frozenset.updateFrom id (← Builtin.Frozenset.addrOf result) r)
    return result))) := by rfl
end
section
variable {P : Program} {w : World} {A : Around} {E : Value → Shared → Prop} {s : Shared}
variable {a b : Addr} {S S2 : Int → Bool} {n n2 : Nat}
theorem anyset_x (R : SetR w s.heap a S n) {Q : Bool → Shared → Prop} (h : Q true s) : wpAny (model P w) A (Builtin.Frozenset.isAnySet (.ref a)) Q E s := by
  obtain ⟨o, es, ep, t, h1, h2, _⟩ := R
  unfold Builtin.Frozenset.isAnySet orM
  refine wpAny_bind (wpAny_isInstance (b := true) ⟨o, h1, h2.1⟩ sub_set_self ?_)
  exact wpAny_pure h
theorem copy_x (R : SetR w s.heap a S n) (sm : ∀ k, S k = true → Sml k) (hsz : n ≤ 100) {Q : Value → Shared → Prop}
    (hQ : ∀ h' es' ep' t' d, (∀ q o, s.heap.get? q = some o → h'.get? q = some o) → h'.objs.size = s.heap.objs.size + 1 → SX w h' s.heap.objs.size S es' ep' t' → es'.size ≤ n → Zer es'.size 0 t' → Q (.ref s.heap.objs.size) { s with heap := h', drawn := d }) :
    wpAny (model P w) A (Builtin.Frozenset.copyOf a) Q E s := by
  obtain ⟨es, ep, t, x, rfl⟩ := sx_of R
  obtain ⟨o, h1, h2, h3⟩ := x.o
  unfold Builtin.Frozenset.copyOf Builtin.Frozenset.baseOf newSet
  refine wpAny_bind (wpAny_bind (wpAny_isInstance (b := true) ⟨o, h1, h2.1⟩ sub_set_self (wpAny_pure ?_)))
  simp only [if_true]
  refine wpAny_bind (wpAny_bind (wpAny_byText ?_))
  refine wpAny_newObj_type ?_
  unfold Builtin.Frozenset.addrOf
  refine wpAny_bind (wpAny_pure ?_)
  have hlt : a < s.heap.objs.size := Heap.lt_size h1
  have keep : ∀ q o, s.heap.get? q = some o → (s.heap.push { cls := .type "set", dict := none, data := .set #[] 0 (.fresh 0 0 (!w.params.followText "set-order")) }).get? q = some o := fun q o e => Heap.get?_push_of_some _ e
  obtain ⟨es0, ep0, t0, x0, z0⟩ := sx_of (setR_fresh (h := s.heap) w)
  have x0' : SX w (s.heap.push { cls := .type "set", dict := none, data := .set #[] 0 (.fresh 0 0 (!w.params.followText "set-order")) }) s.heap.objs.size (fun _ => false) #[] 0 (.fresh 0 0 (!w.params.followText "set-order")) :=
    ⟨⟨_, Heap.get?_push_size _ rfl, ⟨rfl, rfl, rfl⟩, rfl⟩, (fun e he => by simp at he), (by simp), (fun k => by simp), (by decide), (by rfl), List.Pairwise.nil, by
      show _ ∨ (!w.params.followText "set-order") = true
      cases w.params.followText "set-order"
      · exact .inr rfl
      · exact .inl rfl⟩
  refine wpAny_bind (merge_x (b := a) (s := { s with heap := s.heap.push { cls := .type "set", dict := none, data := .set #[] 0 (.fresh 0 0 (!w.params.followText "set-order")) } }) x0' ⟨⟨o, keep _ _ h1, h2, h3⟩, x.g, x.nd, x.m, x.b, x.f, x.r, x.l⟩ (Nat.ne_of_gt hlt) (fun k z => by cases z) sm (by simp; omega) (fun _ => ⟨rfl, .inl ⟨rfl, by omega⟩⟩) (fun s' Q' _ q => wpAny_pure q) fun h' es' ep' t' d sb x' sz z => ?_)
  refine wpAny_pure (hQ h' es' ep' t' d (fun q u e => ?_) (sb.1.trans (size_push' _ _)) (x'.iff fun k => by simp) (by simpa using sz) z)
  exact (sb.2 q (Nat.ne_of_lt (Heap.lt_size e))).trans (keep q u e)
theorem or_at (R : SetR w s.heap a S n) (R2 : SetR w s.heap b S2 n2) (hab : a ≠ b) (sm : ∀ k, S k = true → Sml k) (sm2 : ∀ k, S2 k = true → Sml k) (hsz : n + n2 ≤ 100) {Q : Value → Shared → Prop}
    (hQ : ∀ h' c d, (∀ q o, s.heap.get? q = some o → h'.get? q = some o) → h'.objs.size = s.heap.objs.size + 1 → SetR w h' s.heap.objs.size (fun k => S k || S2 k) c → c ≤ n + n2 → Q (.ref s.heap.objs.size) { s with heap := h', drawn := d }) :
    wpAny (model P w) A (binaryOp .BitOr (.ref a) (.ref b)) Q E s := by
  obtain ⟨es2, ep2, t2, y, rfl⟩ := sx_of R2
  obtain ⟨o, h1, h2, h3⟩ := id y.o
  obtain ⟨o', h1', h2', h3'⟩ := (sx_of R).choose_spec.choose_spec.choose_spec.1.o
  have hb : b < s.heap.objs.size := Heap.lt_size h1
  refine wpAny_binaryOp_same (op := .BitOr) (T := "set") ⟨o', h1', h2'.1⟩ ⟨o, h1, h2.1⟩ PySem.F.fills_set_or PySem.F.slot_set_or ?_
  refine wpAny_call_entry PySem.F.slot_set_or ⟨o', h1', h2'.1⟩ entry_or ?_ (PySem.F.args_set_or_2 _ _)
  rw [or_eq]
  refine wpAny_bind (m := Builtin.Frozenset.slot1 "__or__" _) (wpAny_of_eq (a := (.ref a, .ref b)) (by rfl) ?_)
  dsimp only
  refine wpAny_bind ?_
  refine wpAny_bind (anyset_x R ?_)
  show wpAny _ _ (Builtin.Frozenset.isAnySet (.ref b)) _ _ s
  refine anyset_x R2 ?_
  refine wp_if_neg (by simp) ?_
  refine wpAny_bind ?_
  unfold Builtin.Frozenset.addrOf
  refine wpAny_bind (wpAny_pure ?_)
  refine wpAny_bind (copy_x R sm (by omega) fun h2 es' ep' t' d kp sz x' le z => ?_)
  refine wpAny_bind (wpAny_pure ?_)
  refine wp_if_pos (by rw [bne_iff_ne]; intro z; cases z; exact hab rfl) ?_
  refine wpAny_bind (wpAny_pure ?_)
  have y2 : SX w h2 b S2 es2 ep2 t2 := y.at ((kp _ _ h1).trans h1.symm)
  refine wpAny_bind (wpAny_holding ?_)
  unfold Builtin.Frozenset.updateFrom
  refine wpAny_bind (anyset_x (s := { s with heap := h2, drawn := d }) y2.setR ?_)
  refine wp_if_pos rfl ?_
  refine wpAny_bind ?_
  unfold Builtin.Frozenset.addrOf Builtin.Frozenset.merge
  refine wpAny_pure ?_
  have ep_at : ∀ (s' : Shared) {Q : Nat → Shared → Prop}, s'.heap.get? b = h2.get? b → Q ep2 s' → wpAny (model P w) A.in1 (setEpoch b) Q E s' := fun s' Q e q => by
    obtain ⟨u, u1, u2, u3⟩ := (SX.at (h' := s'.heap) y2 e).o
    exact wpAny_setEpoch_of u1 u3 y2.f q
  refine wpAny_bind (ep_at { s with heap := h2, drawn := d } rfl ?_)
  have hne : s.heap.objs.size ≠ b := Nat.ne_of_gt hb
  refine merge_x (s := { s with heap := h2, drawn := d }) x' y2 hne sm sm2 (by omega) z (fun s' Q' e q => ?_) fun h3 es3 ep3 t3 d3 sb x3 sz3 z3 => ?_
  · unfold Builtin.Frozenset.unchanged
    refine wpAny_bind (ep_at s' e ?_)
    refine wp_if_neg (by simp) ?_
    exact wpAny_pure q
  · refine wpAny_pure ?_
    refine wpAny_pure ⟨_, rfl, by simp, ?_⟩
    refine hQ h3 es3.size d3 (fun q u e => ?_) (sb.1.trans sz) x3.setR (by omega)
    exact (sb.2 q (Nat.ne_of_lt (Heap.lt_size e))).trans (kp q u e)
end
end SetOr
namespace DL
open PySem PySem.Spec PyProof.Rows L2 SetOr
def rSetOr (w : World) : R2 := fun x y H Q => ∃ (p q : Addr) (xs ys : List Int), x = V.ref p ∧ y = V.ref q ∧ p ≠ q ∧ H p = some (setOf w p xs) ∧ H q = some (setOf w q ys) ∧ (∀ k ∈ xs, Sml k) ∧ (∀ k ∈ ys, Sml k) ∧ xs.length + ys.length ≤ 100 ∧
  ∀ (r : Addr) (zs : List Int), H r = none → (∀ k, k ∈ zs ↔ k ∈ xs ∨ k ∈ ys) → zs.length ≤ xs.length + ys.length → Q (.ref r) (upd H r (setOf w r zs))
theorem op_setOr {X : Cx} : OpR X (binaryOp .BitOr) (rSetOr X.w) := by
  intro pins s σ H x y v u Q I rx ry h
  obtain ⟨p, q, xs, ys, rfl, rfl, hpq, hp, hq, s1, s2, hl, k⟩ := h
  cases rx
  cases ry
  refine or_at (setO_get I hp) (setO_get I hq) hpq (fun k z => s1 k (of_decide_eq_true z)) (fun k z => s2 k (of_decide_eq_true z)) hl fun h' c d kp sz R le => ?_
  obtain ⟨es, ep, t, x, rfl⟩ := sx_of R
  have hn : H s.heap.objs.size = none := I.hok.fresh (Nat.le_refl _)
  have mem : ∀ k, k ∈ es.toList.map keyOf ↔ k ∈ xs ∨ k ∈ ys := fun k => by rw [← x.m k]; simp
  have R2 : SetR X.w h' s.heap.objs.size (fun k => decide (k ∈ es.toList.map keyOf)) (es.toList.map keyOf).length := by
    have := x.setR
    rw [List.length_map, Array.length_toList]
    refine this.congr fun k => ?_
    rw [Bool.eq_iff_iff, decide_eq_true_iff, mem]
    simp
  refine ⟨.ref _, upd H s.heap.objs.size (setOf X.w s.heap.objs.size (es.toList.map keyOf)), I.call (ch := []) (t' := s.toks) (Un.laid kp (Nat.le_refl _) hn) (I.hok.laid kp (Nat.le_refl _) (setO_new R2)) I.bare (fun b z => by cases z), rfl, k _ _ hn mem ?_⟩
  rw [List.length_map, Array.length_toList]
  exact le
def tstOr (ta tb : TSt) : TSt := fun Γ Q => ta Γ fun xs Γ1 => tb Γ1 fun ys Γ2 => ((∀ k ∈ xs, Sml k) ∧ (∀ k ∈ ys, Sml k) ∧ xs.length + ys.length ≤ 100) ∧ ∀ zs : List Int, (∀ k, k ∈ zs ↔ k ∈ xs ∨ k ∈ ys) → zs.length ≤ xs.length + ys.length → Q zs Γ2
theorem pst_or {X : Cx} {a b : Expr} {ta tb : TSt} {pos : Pos} (ha : PSt X a ta) (hb : PSt X b tb) : PSt X (.BinOp a .BitOr b pos) (tstOr ta tb) := by
  refine ⟨PE.imp (pe_op op_setOr ha.run hb.run) fun σ H Q ⟨Γ, g, q⟩ => ⟨Γ, g, ha.mono _ _ _ (fun xs Γ1 q p H1 a1 ep np fp => ?_) q⟩, fun Γ Q Q' h => ha.mono _ _ _ fun xs Γ1 => hb.mono _ _ _ fun ys Γ2 q => ⟨q.1, fun zs z1 z2 => h _ _ (q.2 zs z1 z2)⟩⟩
  refine ⟨Γ1, a1.rg, hb.mono _ _ _ (fun ys Γ2 q p2 H2 a2 ep2 np2 fp2 => ?_) q⟩
  obtain ⟨⟨s1, s2, hl⟩, q⟩ := q
  have ep' : H2 p = some (setOf X.w p xs) := a2.keep _ _ ep np
  have hne : p ≠ p2 := by
    rintro rfl
    rcases fp2 with z | z
    · exact np z
    · rw [ep] at z; cases z
  refine ⟨p, p2, xs, ys, rfl, rfl, hne, ep', ep2, s1, s2, hl, fun r zs hn z1 z2 => ?_⟩
  have sm : Same H2 (upd H2 r (setOf X.w r zs)) := same_upd hn
  exact q zs z1 z2 r _ ((a1.trans g a2).trans g (Aft.same a2.rg sm)) upd_same (fun z => a2.rg.there z hn) ((a1.trans g a2).fresh (.inr hn))
/-- a target that wipes fewer slots -/
theorem pgc_wide {X : Cx} {tg : Expr} {vs vs1 : List Nat} {t : TGD} (h : PGC X tg vs1 t) (hv : ∀ i ∈ vs1, i ∈ vs := by decide) : PGC X tg vs t :=
  ⟨PG.imp h.run fun v σ H Q ⟨Γ, d, g, r, q⟩ => ⟨Γ, d, g, r, h.mono _ _ _ _ (fun Γ' q σ' a e => q σ' a (wipe_sub hv e)) q⟩, h.mono⟩
section
variable {X : Cx} {tg iter tgx iter1 elt : Expr} {pos : Pos} {ti ti1 : TID} {tgd tg1 : TGD} {tt tt1 : TB} {te : TD} {ifs ifs1 : List Expr} {scope : Scope}
theorem pd_setLc2 (i : Nat) (own : List (Str × Nat)) (vs1 : List Nat) {y : Str} {py spos : Pos} (hc : X.calm = true) (hN : X.N.Nodup) (hi : PID X tg iter ti) (ok : BlkOk X.N X.env.scope scope own) (hg : ∀ (s : Shared) (H : Hp) (C : Addr) (cl : List (Str × Addr)) (fp : List Addr), PGC (X.blk s H scope (compEnvC scope cl C X.env) fp) tg (own.map (·.2)) tgd)
    (ht : ∀ (s : Shared) (H : Hp) (C : Addr) (cl : List (Str × Addr)) (fp : List Addr), PBs (X.blk s H scope (compEnvC scope cl C X.env) fp) ifs tt) (hi1 : ∀ (s : Shared) (H : Hp) (C : Addr) (cl : List (Str × Addr)) (fp : List Addr), PID (X.blk s H scope (compEnvC scope cl C X.env) fp) tgx iter1 ti1)
    (hg1 : ∀ (s : Shared) (H : Hp) (C : Addr) (cl : List (Str × Addr)) (fp : List Addr), PGC (X.blk s H scope (compEnvC scope cl C X.env) fp) tgx vs1 tg1) (ht1 : ∀ (s : Shared) (H : Hp) (C : Addr) (cl : List (Str × Addr)) (fp : List Addr), PBs (X.blk s H scope (compEnvC scope cl C X.env) fp) ifs1 tt1)
    (he : ∀ (s : Shared) (H : Hp) (C : Addr) (cl : List (Str × Addr)) (fp : List Addr), PD (X.blk s H scope (compEnvC scope cl C X.env) fp) elt te)
    (hsw : swapsWith (.ListComp elt [⟨tg, iter, ifs, 0⟩, ⟨tgx, iter1, ifs1, 0⟩] scope pos) (some (.Name y py)) spos.line X.env = pure true := by first | rfl | exact sw_true rfl rfl rfl (by decide +kernel)) (hy : X.N[i]? = some y := by rfl) (hyl : X.env.scope.names.lookup y = some .local := by rfl)
    (hv : ∀ i ∈ vs1, i ∈ own.map (·.2) := by decide) (hs : ∀ x, foldedSetIterable iter X.env x = pure x := by intro _; rfl) (hs1 : ∀ env x, foldedSetIterable iter1 env x = pure x := by intro _ _; rfl) :
    PDS X (.Assign [.Name y py] (.ListComp elt [⟨tg, iter, ifs, 0⟩, ⟨tgx, iter1, ifs1, 0⟩] scope pos) spos) (tsSet i (tdLc2 ti tgd tt ti1 tg1 tt1 te (own.map (·.2)) vs1)) := by
  have mo : MonoL2 tgd tt ti1 tg1 tt1 te := ⟨(hg X.s_0 X.H_0 0 [] []).mono, (ht X.s_0 X.H_0 0 [] []).mono, (hi1 X.s_0 X.H_0 0 [] []).mono, (hg1 X.s_0 X.H_0 0 [] []).mono, (ht1 X.s_0 X.H_0 0 [] []).mono, (he X.s_0 X.H_0 0 [] []).mono⟩
  have mm := tdLc2_mono (vs := own.map (·.2)) (vs1 := vs1) hi.mono mo
  refine ⟨fun W tk => PS.imp (ps_setLc2 hc hN hy hyl hsw hi.run ok hv (fun s H C cl fp => (hg s H C cl fp).run) (fun s H C cl fp => (ht s H C cl fp).run) (fun s H C cl fp => (hi1 s H C cl fp).run) (fun s H C cl fp => (hg1 s H C cl fp).run) (fun s H C cl fp => (ht1 s H C cl fp).run) (fun s H C cl fp => (he s H C cl fp).run) hs hs1) fun D σ H ⟨Γ, g, q⟩ => tdLc2_ok hv hi.mono mo ⟨Γ, g, mm _ _ _ (fun r Γ' q v H' a rs => ?_) q⟩, fun D D' Γ h => mm _ _ _ fun r Γ' q => ⟨q.1, h.nx _ q.2⟩⟩
  exact q.2 _ H' (aft_set a rs q.1)
end
/-- two clauses without tests, the slots left as they are -/
theorem L2R.of {α β : Type} {as : List α} {F : α → D} {lk : Lk} {Γ1 : G} {tg : TGD} {tt : TB} {ti1 : TID} {tg1 : TGD} {tt1 : TB} {te : TD} {vs vs1 : List Nat} {Q : SV → G → Prop} (mc : MonoL2 tg tt ti1 tg1 tt1 te) (b : α → List β) (F1 : β → D) (f : α → β → D)
    (hlk : lkOk lk (wipeD Γ1 vs)) (hlen : (as.flatMap b).length < sizeLine)
    (h : ∀ a ∈ as, tg (F a) (wipeD Γ1 vs) fun Γ2 => tt Γ2 fun k Γ3 => k = true ∧ ti1 Γ3 fun ds1 lk1 Γ4 => ds1 = (b a).map F1 ∧ lkOk lk1 (wipeD Γ4 vs1) ∧ wipeD (wipeD Γ4 vs1) vs = wipeD Γ1 vs ∧
      ∀ x ∈ b a, tg1 (F1 x) (wipeD Γ4 vs1) fun Γ5 => tt1 Γ5 fun k1 Γ6 => k1 = true ∧ te Γ6 fun r Γ7 => r = .fz (f a x) ∧ wipeD Γ7 vs1 = wipeD Γ4 vs1)
    (q : ∀ p, Q (.ow p (.lst (as.flatMap fun a => (b a).map (f a)))) (unwipe (wipeD Γ1 vs) Γ1 vs)) : L2R (as.map F) lk Γ1 tg tt ti1 tg1 tt1 te vs vs1 Q := by
  have fl : ∀ us : List α, (us.flatMap fun a => (b a).map (f a)).length = (us.flatMap b).length := fun us => by
    induction us with
    | nil => rfl
    | cons u us ih => rw [List.flatMap_cons, List.flatMap_cons, List.length_append, List.length_append, List.length_map, ih]
  refine ⟨fun done rest acc Γ => ∃ us ws, us ++ ws = as ∧ done = us.map F ∧ rest = ws.map F ∧ acc = (us.flatMap fun a => (b a).map (f a)) ∧ Γ = wipeD Γ1 vs, ⟨[], as, rfl, rfl, rfl, rfl, rfl⟩, ?_, ?_, ?_⟩
  · rintro done rest acc Γ _ ⟨us, ws, _, _, _, _, rfl⟩
    exact hlk
  · rintro done d rest acc Γ _ ⟨us, ws, e1, rfl, e3, rfl, rfl⟩
    cases ws with
    | nil => simp at e3
    | cons r ws =>
      simp only [List.map_cons, List.cons.injEq] at e3
      obtain ⟨rfl, rfl⟩ := e3
      have hr : r ∈ as := by rw [← e1]; simp
      have hl2 : (us.flatMap b).length + (b r).length < sizeLine := by
        have : (as.flatMap b).length = (us.flatMap b).length + ((b r).length + (ws.flatMap b).length) := by
          rw [← e1, List.flatMap_append, List.flatMap_cons, List.length_append, List.length_append]
        omega
      refine mc.mg _ _ _ _ (fun Γ2 => mc.mt _ _ _ fun k Γ3 hk => ?_) (h r hr)
      obtain ⟨rfl, hk⟩ := hk
      refine Br.t (mc.mi _ _ _ (fun ds1 lk1 Γ4 hk => ?_) hk)
      obtain ⟨rfl, hl1, hw, turn⟩ := hk
      refine ⟨fun dn rs acc Γ => ∃ xs ys, xs ++ ys = b r ∧ dn = xs.map F1 ∧ rs = ys.map F1 ∧ acc = (us.flatMap fun a => (b a).map (f a)) ++ xs.map (f r) ∧ Γ = wipeD Γ4 vs1, ⟨[], b r, rfl, rfl, rfl, by simp, rfl⟩, ?_, ?_, ?_⟩
      · rintro dn rs acc Γ e0 ⟨xs, ys, e1', rfl, rfl, rfl, rfl⟩
        refine ⟨hl1, ?_⟩
        rw [List.length_append, fl, List.length_map]
        have : xs.length ≤ (b r).length := by rw [← e1', List.length_append]; omega
        omega
      · rintro dn x rs acc Γ _ ⟨xs, ys, e1', rfl, e3', rfl, rfl⟩
        cases ys with
        | nil => simp at e3'
        | cons y ys =>
          simp only [List.map_cons, List.cons.injEq] at e3'
          obtain ⟨rfl, rfl⟩ := e3'
          have hy : y ∈ b r := by rw [← e1']; simp
          refine mc.mg1 _ _ _ _ (fun Γ5 => mc.mt1 _ _ _ fun k1 Γ6 hk => ?_) (turn y hy)
          obtain ⟨rfl, hk⟩ := hk
          refine Br.t (mc.me _ _ _ (fun r' Γ7 hk => ?_) hk)
          obtain ⟨rfl, hk⟩ := hk
          exact ⟨_, rfl, xs ++ [y], ys, by rw [← e1']; simp, by simp, rfl, by simp, hk⟩
      · rintro acc Γ ⟨xs, ys, e1', e2', e3', rfl, rfl⟩
        have : ys = [] := by simpa using e3'.symm
        subst this
        rw [List.append_nil] at e1'
        subst e1'
        exact ⟨us ++ [r], ws, by rw [← e1]; simp, by simp, rfl, by simp, hw⟩
  · rintro acc Γ ⟨us, ws, e1, e2, e3, rfl, rfl⟩ p
    have : ws = [] := by simpa using e3.symm
    subst this
    rw [List.append_nil] at e1
    subst e1
    exact q p
theorem back_fo {Q : SV → G → Prop} {r : SV} {d : D} {x : SV} {p : Addr} {o o' : O} {Γ Γ' : G} (h : Q r (.fz d :: .ow p o' :: back Γ Γ')) : Q r (back (.fz d :: .ow p o :: Γ) (x :: .ow p o' :: Γ')) := by
  have e : back (.fz d :: .ow p o :: Γ) (x :: .ow p o' :: Γ') = .fz d :: (if p = p then .ow p o' else .no) :: back Γ Γ' := rfl
  rw [e, if_pos rfl]
  exact h
theorem back_oo {Q : SV → G → Prop} {r : SV} {p1 : Addr} {o1 o1' : O} {p : Addr} {o o' : O} {Γ Γ' : G} (h : Q r (.ow p1 o1' :: .ow p o' :: back Γ Γ')) : Q r (back (.ow p1 o1 :: .ow p o :: Γ) (.ow p1 o1' :: .ow p o' :: Γ')) := by
  have e : back (.ow p1 o1 :: .ow p o :: Γ) (.ow p1 o1' :: .ow p o' :: Γ') = (if p1 = p1 then .ow p1 o1' else .no) :: (if p = p then .ow p o' else .no) :: back Γ Γ' := rfl
  rw [e, if_pos rfl, if_pos rfl]
  exact h
/-- the pairs of a dict that a value is, not walked -/
def dtNow (Γ : G) : SV → (List (List Int × D) → Prop) → Prop
  | .ow _ (.dT kvs), k => k kvs
  | .bw i, k => match Γ[i]? with
    | some (.ow _ (.dT kvs)) => k kvs
    | _ => False
  | _, _ => False
theorem dtNow_mono {Γ : G} {r : SV} {k k' : List (List Int × D) → Prop} (h : ∀ d, k d → k' d) (q : dtNow Γ r k) : dtNow Γ r k' := by
  unfold dtNow at q ⊢
  split at q <;> first | exact h _ q | (split at q <;> first | exact h _ q | exact q) | exact q
theorem dtNow_ok {K : PySem.W.Frag} {H H0 : Hp} {σ : Sl} {Γ Γ0 : G} {r : SV} {v : V} {k : List (List Int × D) → Prop} (g : RG K H σ Γ) (q : Res K H0 σ Γ0 H Γ v r) (h : dtNow Γ r k) : ∃ a kvs vs, v = .ref a ∧ H a = some (.dT vs) ∧ PRep K H kT kvs vs ∧ k kvs := by
  unfold dtNow at h
  split at h
  · obtain ⟨rfl, ⟨vs, e, rs⟩, _, _⟩ := q
    exact ⟨_, _, vs, rfl, e, rs, h⟩
  · split at h
    · rename_i e
      obtain ⟨e1, vs, e2, rs⟩ := g.ow _ _ _ e
      have e3 := (show σ[_]? = some (some v) from q).symm.trans e1
      cases e3
      exact ⟨_, _, vs, rfl, e2, rs, h⟩
    · exact h.elim
  · exact h.elim
def tdLenT (ta : TD) : TD := fun Γ Q => ta Γ fun x Γ1 => dtNow Γ1 x fun kvs => Q (.fz (.int (kvs.length : Nat))) Γ1
theorem pd_lenT {X : Cx} {e : Expr} {ta : TD} {p pos : Pos} (hg : Gl X "len") (hm : X.mg "len" = none) (hv : bootBuiltins "len" = some (.builtin "len")) (ha : PD X e ta)
    (hst : starEach [e] X.env = (false, eval e X.env) :: starEach [] X.env := by rfl) (hpl : (backTo pos (starEach [] X.env)).any (·.1) = false := by rfl) : PD X (.Call (.Name "len" p) [e] [] pos) (tdLenT ta) := by
  refine ⟨PE.imp (pe_callB call_len_dT hg hm hv (pa_cons ha.run pa_nil hst) (by decide) (by decide) hst hpl) fun σ H Q ⟨Γ, g, q⟩ => ⟨Γ, g, ha.mono _ _ _ (fun x Γ1 q v H1 a1 r1 => ?_) q⟩, fun Γ Q Q' h => ha.mono _ _ _ fun x Γ1 => dtNow_mono fun kvs => h _ _⟩
  obtain ⟨a, kvs, vs, rfl, hp, pr, q⟩ := dtNow_ok a1.rg r1 q
  refine ⟨a, vs, rfl, hp, ?_⟩
  rw [pr.len]
  exact q _ H1 a1 rfl
/-- isinstance(d, T), x is None, of a dict -/
def tdIsT (T : Ty) (ta : TD) : TD := fun Γ Q => ta Γ fun r Γ' => dtNow Γ' r fun _ => Q (.fz (.bool (T.hasT .d))) Γ'
def tdNoT (ta : TD) : TD := fun Γ Q => ta Γ fun r Γ' => dtNow Γ' r fun _ => Q (.fz (.bool false)) Γ'
section
variable {X : Cx} {pos : Pos}
theorem pd_isT {a : Expr} {ta : TD} {p p2 : Pos} {x : Str} (T : Ty) (hg : Gl X "isinstance") (hm : X.mg "isinstance" = none) (hgT : Gl X x) (hmT : X.mg x = none) (hvT : bootBuiltins x = some (.type T.nm)) (ha : PD X a ta)
    (hnT : x ≠ "__name__" := by decide) (hdT : (x == ("__debug__" : Str)) = false := by decide) (hv : bootBuiltins "isinstance" = some (.builtin "isinstance") := by decide +kernel)
    (na : starEach [a, .Name x p2] X.env = (false, eval a X.env) :: starEach [.Name x p2] X.env := by rfl) (nb : starEach [Expr.Name x p2] X.env = (false, eval (.Name x p2) X.env) :: starEach [] X.env := by rfl)
    (hpl : (backTo pos (starEach [Expr.Name x p2] X.env)).any (·.1) = false := by rfl) : PD X (.Call (.Name "isinstance" p) [a, .Name x p2] [] pos) (tdIsT T ta) := by
  have hT : PE X (.Name x p2) (tC (.ty T.nm)) := pe_bltn hgT hmT hvT rfl hnT hdT
  refine ⟨PE.imp (pe_callB call_isi hg hm hv (pa_cons ha.run (pa_cons hT pa_nil nb) na) (by decide) (by decide) na hpl) fun σ H Q ⟨Γ, g, q⟩ => ⟨Γ, g, ha.mono _ _ _ (fun r Γ' q => ?_) q⟩, fun Γ Q Q' hq => ha.mono _ _ _ fun r Γ' => dtNow_mono fun d => hq _ _⟩
  intro v H' af rs
  obtain ⟨a, kvs, vs, rfl, hp, pr, q⟩ := dtNow_ok af.rg rs q
  exact ⟨.ref a, .ty T.nm, _, _, _, rfl, .ty T.nm, .base (.dT hp), kit_ty (T.kit .d), q _ H' af rfl⟩
theorem tdNoT_mono {ta : TD} (h : Mono ta) : Mono (tdNoT ta) := fun Γ Q Q' hq => h _ _ _ fun r Γ' => dtNow_mono fun d => hq _ _
theorem pb_noT {a b : Expr} {ta : TD} (ha : PD X a ta) (hb : PD X b (tdC .none)) (hm : behindInMarks .Is b = false := by first | rfl | exact nomark _) : PB X (.Compare a [.Is] [b] pos) (tdB (tdNoT ta)) := by
  refine ⟨PT.imp (pt_cmpR op_isN ha.run hb.run hm) fun σ H Q q => tTest_imp (fun σ H Q ⟨Γ, g, q⟩ => ⟨Γ, g, ha.mono _ _ _ (fun r Γ1 q v H1 a1 r1 => ?_) q⟩) (tdB_ok (tdNoT_mono ha.mono) q), tdB_mono (tdNoT_mono ha.mono)⟩
  obtain ⟨a, kvs, vs, rfl, hp, pr, q⟩ := dtNow_ok a1.rg r1 q
  refine ⟨Γ1, a1.rg, fun u H2 a2 r2 => ?_⟩
  have e : u = .non := (show Rep X.K H2 .none u from r2)
  exact ⟨e, q _ H2 (a1.trans g a2) rfl⟩
end
/-! ### calls whose first argument is fresh and one's own -/
def upB : SV → SV
  | .bw i => .bw (i + 1)
  | .ow _ _ => .no
  | r => r
theorem arg_up {x : SV} {Γ1 : G} (rs : List SV) : (rs.map upB).map (argOf (x :: Γ1)) = rs.map (argOf Γ1) := by
  rw [List.map_map]
  refine List.map_congr_left fun r _ => ?_
  cases r <;> first | rfl | simp [upB, argOf]
theorem wback_up {x : SV} {Γ1 : G} : ∀ (rs : List SV) (Γa : G), wback (x :: Γ1) (rs.map upB) Γa = x :: wback Γ1 rs Γa
  | [], _ => rfl
  | r :: rs, Γa => by
    have ih := wback_up (x := x) (Γ1 := Γ1) rs Γa.tail
    cases r with
    | bw i =>
      show (wback (x :: Γ1) (rs.map upB) Γa.tail).set (i + 1) _ = x :: (wback Γ1 rs Γa.tail).set i _
      rw [ih]; rfl
    | no => exact ih
    | fz _ => exact ih
    | ow _ _ => exact ih
    | raw _ => exact ih
theorem bwIx_up (rs : List SV) : (rs.map upB).filterMap bwIx = (rs.filterMap bwIx).map (· + 1) := by
  induction rs with
  | nil => rfl
  | cons r rs ih =>
    rw [List.map_cons]
    cases r <;> simp [upB, bwIx, List.filterMap_cons, ih]
theorem own_cons_iff {s : SV} {Γ : G} {c : Addr} : own (s :: Γ) c ↔ (∃ p o, s = .ow p o ∧ c ∈ p :: o.fp) ∨ own Γ c := by
  constructor
  · intro h
    obtain ⟨j, p, o, e, ha⟩ := own_el h
    cases j with
    | zero => exact .inl ⟨p, o, by simpa using e, ha⟩
    | succ j => exact .inr (own_mk (by simpa using e) ha)
  · rintro (⟨p, o, rfl, ha⟩ | h)
    · exact own_mk (i := 0) rfl ha
    · obtain ⟨j, p, o, e, ha⟩ := own_el h
      exact own_mk (i := j + 1) (by simpa using e) ha
def tdCallF (sp : SpD) (t : TAD) : TD := fun Γ Q => t Γ fun rs Γ1 => match rs with
  | .ow p o :: rest => bwOk rest = true ∧ sp (.ow p o :: rest.map (argOf Γ1)) (fun r Γa => isBw r = false ∧ Q r (wback Γ1 rest Γa.tail)) (fun _ _ => False)
  | _ => False
theorem rg_cons {K : PySem.W.Frag} {H1 : Hp} {σ : Sl} {Γ1 : G} {p : Addr} {o : O} (g : RG K H1 σ Γ1) (ok : OwnOk K H1 p o) (n : ∀ a ∈ p :: o.fp, ¬ own Γ1 a) : RG K H1 (some (.ref p) :: σ) (.ow p o :: Γ1) := by
  refine ⟨by simp [g.len], fun j d e => ?_, fun j q o' e => ?_, fun j v e => ?_, one_mk fun j j' q q' o1 o2 c e e' ha hb => ?_, g.tb⟩
  · cases j with
    | zero => cases e
    | succ j => exact g.fz j d (by simpa using e)
  · cases j with
    | zero => cases e; exact ⟨rfl, ok⟩
    | succ j => exact g.ow j q o' (by simpa using e)
  · cases j with
    | zero => cases e
    | succ j => exact g.raw j v (by simpa using e)
  · cases j with
    | zero =>
      cases e
      cases j' with
      | zero => rfl
      | succ j' => exact absurd (own_mk (show Γ1[j']? = some (.ow q' o2) by simpa using e') hb) (n c ha)
    | succ j =>
      cases j' with
      | zero =>
        cases e'
        exact absurd (own_mk (show Γ1[j]? = some (.ow q o1) by simpa using e) ha) (n c hb)
      | succ j' => rw [g.one' (show Γ1[j]? = some (.ow q o1) by simpa using e) (show Γ1[j']? = some (.ow q' o2) by simpa using e') ha hb]
theorem rg_tail {K : PySem.W.Frag} {H1 : Hp} {σ : Sl} {Γ1 : G} {s : SV} {v : Option V} (g : RG K H1 (v :: σ) (s :: Γ1)) : RG K H1 σ Γ1 := by
  refine ⟨by simpa using g.len, fun j d e => g.fz (j + 1) d (by simpa using e), fun j q o e => g.ow (j + 1) q o (by simpa using e), fun j v e => g.raw (j + 1) v (by simpa using e), one_mk fun j j' q q' o1 o2 c e e' ha hb => ?_, g.tb⟩
  have := g.one' (i := j + 1) (j := j' + 1) (by simpa using e) (by simpa using e') ha hb
  omega
theorem callF_ok {X : Cx} {sp : SpD} (ms : MonoSp sp) {n : Nat} {EX : XK} {σ : Sl} {H : Hp} {Q : VK} {Γ Γ1 : G} {H1 : Hp} {p : Addr} {o : O} {rest : List SV} {vs : List V} (g : RG X.K H σ Γ) (a1 : Aft X.K H Γ H1 σ Γ1) (rr : Ress X.K H σ Γ H1 Γ1 (.ow p o :: rest) vs) (hn : vs.length = n)
    (nd : bwOk rest = true) (q : sp (.ow p o :: rest.map (argOf Γ1)) (fun r Γa => isBw r = false ∧ ∀ v H', Aft X.K H Γ H' σ (wback Γ1 rest Γa.tail) → Res X.K H σ Γ H' (wback Γ1 rest Γa.tail) v r → Q v H') (fun _ _ => False)) : liftSp X.K n sp vs H1 Q EX := by
  obtain ⟨v0, w0, rfl, ⟨rfl, ok, no, fr⟩, rr⟩ := rr
  have g2 := rg_cons a1.rg ok no
  have rs2 : ∀ {rest : List SV} {w0 : List V}, Ress X.K H σ Γ H1 Γ1 rest w0 → Ress X.K H1 (some (.ref p) :: σ) (.ow p o :: Γ1) H1 (.ow p o :: Γ1) (rest.map upB) w0 := by
    intro rest
    induction rest with
    | nil => intro w0 h; exact h
    | cons r rest ih =>
      intro w0 h
      obtain ⟨v, w, rfl, h1, h2⟩ := h
      refine ⟨v, w, rfl, ?_, ih h2⟩
      cases r with
      | no => trivial
      | fz d => exact h1
      | raw u => exact h1
      | bw i => exact (show ((some (V.ref p) :: σ)[i + 1]? = _) from h1)
      | ow _ _ => trivial
  have o2 : ∀ {c : Addr}, own (.ow p o :: Γ1) c ∨ H1 c = none → own Γ c ∨ H c = none := fun {c} h => by
    rcases h with h | h
    · rcases own_cons_iff.mp h with ⟨p', o', e, ha⟩ | h
      · cases e; exact fr c ha
      · exact a1.fresh (.inl h)
    · exact a1.fresh (.inr h)
  have em : (SV.bw 0 :: rest.map upB).map (argOf (.ow p o :: Γ1)) = .ow p o :: rest.map (argOf Γ1) := by
    rw [List.map_cons, arg_up]; rfl
  have := call_ok (X := X) (EX := EX) ms (dD := []) (dvs := []) (fun _ => rfl) (n := n) (Q := Q) g2 (Aft.refl g2) (rs := .bw 0 :: rest.map upB) (vs := .ref p :: w0) ⟨.ref p, w0, rfl, rfl, rs2 rr⟩ (by rw [List.append_nil]; exact hn) ?nd ?q
  · rw [List.append_nil] at this
    exact this
  case nd =>
    unfold bwOk at nd ⊢
    have nd := of_decide_eq_true nd
    refine decide_eq_true ?_
    show (0 :: (rest.map upB).filterMap bwIx).Nodup
    rw [bwIx_up]
    refine List.nodup_cons.mpr ⟨by simp, List.pairwise_map.mpr (nd.imp fun h e => h (by omega))⟩
  case q =>
    rw [List.map_nil, List.append_nil, em]
    refine ms _ _ _ _ _ (fun r Γa ⟨nb, q⟩ => ⟨nb, fun v H' a2 r2 => ?_⟩) (fun _ _ z => z.elim) q
    have ew : wback (.ow p o :: Γ1) (.bw 0 :: rest.map upB) Γa = Γa.headD .no :: wback Γ1 rest Γa.tail := by
      show (wback (.ow p o :: Γ1) (rest.map upB) Γa.tail).set 0 _ = _
      rw [wback_up]; rfl
    rw [ew] at a2 r2
    have a3 : Aft X.K H Γ H' σ (wback Γ1 rest Γa.tail) := by
      refine ⟨fun c u e nn => a2.keep c u (a1.keep c u e nn) fun z => ?_, rg_tail a2.rg, fun c h => ?_, a1.im.trans a2.im⟩
      · rcases o2 (.inl z) with z | z
        · exact nn z
        · rw [e] at z; cases z
      · exact o2 (a2.sh c (own_cons_iff.mpr (.inr h)))
    refine q v H' a3 ?_
    cases r with
    | no => trivial
    | fz d => exact r2
    | raw u => exact r2
    | bw i => cases nb
    | ow p' o' =>
      obtain ⟨e, w, nn, fr'⟩ := r2
      exact ⟨e, w, fun c hc z => nn c hc (own_cons_iff.mpr (.inr z)), fun c hc => o2 (fr' c hc)⟩
theorem tdCallF_mono {sp : SpD} {t : TAD} (ms : MonoSp sp) (ma : MonoA t) : Mono (tdCallF sp t) := fun Γ Q Q' hq => ma _ _ _ fun rs Γ1 q => by
  split at q
  · exact ⟨q.1, ms _ _ _ _ _ (fun r Γa z => ⟨z.1, hq _ _ z.2⟩) (fun _ _ z => z) q.2⟩
  · exact q
theorem pd_defF {X : Cx} {k n j : Nat} {ps : List Str} {sp : SpD} {x : Str} {p pos : Pos} {e : Expr} {es : List Expr} {t : TAD} (F : DefOk X.prog X.w X.K X.mg X.base k x ps n sp) (hr : Room j X.A) (ha : PAD X (e :: es) t) (hj : k ≤ j := by first | decide | omega) (hg : Gl X x := by rfl) (hn : (e :: es).length = n := by rfl)
    (hdb : (x == ("__debug__" : Str)) = false := by decide) (he : starEach (e :: es) X.env = (false, eval e X.env) :: starEach es X.env := by rfl) (hpl : (backTo pos (starEach es X.env)).any (·.1) = false := by rfl) : PD X (.Call (.Name x p) (e :: es) [] pos) (tdCallF sp t) := by
  obtain ⟨f, fd, h1, h2, h3, h4⟩ := F.ok
  refine ⟨PE.imp (pe_call (dvs := []) h1 (hr.mono hj) hg h2 h3 h4 .nil pass0 ha.run hdb he hpl) fun σ H Q ⟨Γ, g, q⟩ => ⟨Γ, g, ha.mono _ _ _ (fun rs Γ1 q => ?_) (ha.len _ _ q)⟩, tdCallF_mono F.ms ha.mono⟩
  intro vs H1 a1 rr
  obtain ⟨hl, q⟩ := q
  split at q
  · rw [List.append_nil]
    exact callF_ok F.ms g a1 rr (by rw [rr.len, hl]; exact hn) q.1 q.2
  · exact q.elim
end DL
/-! DL24: x.index(k) of a tuple of ints. -/
namespace DL
open PySem PySem.Spec PyProof.Rows L2
theorem mt_idxI {X : Cx} : MtR X "tuple.index" (fun x xs H Q => ∃ p, ∃ ys : List Int, ∃ z : Int, ∃ j : Nat, x = .ref p ∧ xs = [.int z] ∧ SqT X.K H p (ys.map V.int) ∧ ys[j]? = some z ∧ (∀ m : Nat, m < j → ys[m]? ≠ some z) ∧ Q (.int (j : Nat)) H) := by
  intro pins s σ H x xs v us Q I rx rs h
  obtain ⟨p, ys, z, j, rfl, rfl, hq, hy, hno, q⟩ := h
  cases rx
  obtain ⟨u, rfl, t, rfl⟩ := vals1 rs
  obtain ⟨its, r, pl, hz⟩ := I.tuple hq
  obtain ⟨⟨cls, dd, dt, sl⟩, ho, hc, n, hd⟩ := pl
  simp only at hc hd
  subst hc
  subst hd
  have hi := ints_of_vals r
  have hl : its.toArray.size = ys.length := by rw [List.size_toArray, ← r.length, List.length_map]
  have hj : j < its.toArray.size := by rw [hl]; exact (List.getElem?_eq_some_iff.mp hy).1
  have at' : ∀ (m : Nat) (hm : m < its.toArray.size), ∃ y t', ys[m]? = some y ∧ its.toArray[m] = Value.int y t' := fun m hm => by
    have hm' : m < ys.length := by rw [← hl]; exact hm
    obtain ⟨tj, hjt⟩ := hi.get m _ (List.getElem?_eq_getElem hm')
    obtain ⟨h1, h2⟩ := List.getElem?_eq_some_iff.mp hjt
    exact ⟨_, tj, List.getElem?_eq_getElem hm', by simpa using h2⟩
  refine call_meets PySem.F.slot_tuple_index ⟨_, ho, rfl⟩ PySem.F.entry_tuple_index (PySem.F.args_tuple_index_2 _ _) (TI.tuple_indexAt p its.toArray n dd sl (.int z t) (eqk z) j hj ?_ ?_)
    ⟨ho, fun w hw => (eqk_gives hi w (by simpa using hw)).at _ _, ⟨.int (j : Nat), H, I.tok _, ⟨_, rfl⟩, q⟩⟩
  · obtain ⟨y, t', h1, h2⟩ := at' j hj
    rw [hy] at h1
    cases h1
    rw [h2]
    exact beq_self_eq_true z
  · intro m hm hmj
    obtain ⟨y, t', h1, h2⟩ := at' m hm
    rw [h2]
    refine beq_eq_false_iff_ne.mpr fun e => hno m hmj ?_
    rw [h1, e]
/-! ### {k: v}, the key a tuple -/
def tDisp1T (tk tv : TE) : TE := fun σ H Q => ∀ p, H p = none → tk σ (upd H p (.dT [])) fun y H1 => tv σ H1 fun x H2 => H2 p = some (.dT []) ∧ ∃ (ks : List Key) (b : Addr), y = .ref b ∧ H2 b = some (.tup (ks.map kV)) ∧ Q (.ref p) (upd H2 p (.dT [(ks, x)]))
theorem pe_disp1T {X : Cx} {pos : Pos} {k v : Expr} {tk tv : TE} (hu : X.A.units + 64 < cLine) (hk : PE X k tk) (hv : PE X v tv) : PE X (.Dict [some k] [v] pos) (tDisp1T tk tv) := by
  refine ⟨fun pins s σ H Q I q => ?_⟩
  have hn := I.hok.fresh (Nat.le_refl s.heap.objs.size)
  have I1 := I.laid (a := s.heap.objs.size) (o := .dT []) (h' := s.heap.push { cls := .type "dict", data := .dict #[] }) (t' := s.toks) (fun _ _ q => Heap.get?_push_of_some _ q) (Nat.le_refl _) (dt_empty s.heap I.big)
  rw [arm_eval_Dict, zip_pairTrees [some k] [v] X.env pos rfl rfl, dictDisplay_pairs (pairTrees [some k] [v] X.env pos) (by simp [pairTrees]) (by simp [pairTrees])]
  refine wpAny_bind (wpAny_standAt (wpAny_bind ?_))
  unfold subDict
  refine wpAny_bind (wpAny_alloc ?_)
  refine wpAny_bind (wpAny_holding ?_)
  rw [if_pos (by simp [pairTrees])]
  refine wpAny_bind (thn ((pps_cons hk hv pps_nil).run pins _ σ _ (fun ps H2 => match ps with
    | [(y, x)] => H2 s.heap.objs.size = some (.dT []) ∧ ∃ (ks : List Key) (b : Addr), y = .ref b ∧ H2 b = some (.tup (ks.map kV)) ∧ Q (.ref s.heap.objs.size) (upd H2 s.heap.objs.size (.dT [(ks, x)]))
    | _ => False) I1 (q _ hn)) fun ws s2 ⟨ps, H2, I2, rel, q⟩ => ?_)
  rcases ps with _ | ⟨⟨y, x⟩, _ | ⟨z, zs⟩⟩
  · exact q.elim
  · obtain ⟨hd, ks, b, rfl, hb, q⟩ := q
    cases rel with
    | @cons p0 w0 _ _ r1 r2 =>
      cases r2
      obtain ⟨u, r⟩ := w0
      obtain ⟨ru, rr⟩ := r1
      obtain rfl : u = Value.ref b := ru
      refine wpAny_holding (wpAny_bind ?_)
      rw [List.forIn_cons]
      refine wpAny_bind (wpAny_bind (put_inv (by omega) I2 hd (by decide) hb rr fun s3 I3 => wpAny_pure ?_))
      dsimp only
      rw [List.forIn_nil]
      exact wpAny_pure (wpAny_pure (wpAny_pure (wpAny_pure ⟨.ref _, _, I3, rfl, q⟩)))
  · exact q.elim
def tdDisp1 (tk tv : TD) : TD := fun Γ Q => tk Γ fun y Γ1 => tv Γ1 fun r Γ2 => ∃ (ks : List Int) (d : D), y = .fz (tI ks) ∧ r = .fz d ∧ ∀ p, Q (.ow p (.dT [(ks, d)])) Γ2
theorem pd_disp1 {X : Cx} {k v : Expr} {pos : Pos} {tk tv : TD} (hu : X.A.units + 64 < cLine) (hk : PD X k tk) (hv : PD X v tv) : PD X (.Dict [some k] [v] pos) (tdDisp1 tk tv) := by
  refine ⟨PE.imp (pe_disp1T hu hk.run hv.run) fun σ H Q ⟨Γ, g, q⟩ p hp => ?_, fun Γ Q Q' h => hk.mono _ _ _ fun y Γ1 => hv.mono _ _ _ fun r Γ2 ⟨ks, d, e1, e2, q⟩ => ⟨ks, d, e1, e2, fun p => h _ _ (q p)⟩⟩
  have sm : Same H (upd H p (.dT [])) := same_upd hp
  have a0 : Aft X.K H Γ (upd H p (.dT [])) σ Γ := Aft.same g sm
  have keepl : ∀ {H H' : Hp} {σ' σ'' : Sl} {Γ Γ' : G} {us : HO} [NT us], RG X.K H σ'' Γ → Aft X.K H Γ H' σ' Γ' → H p = some us → ¬ own Γ p → H' p = some us ∧ ¬ own Γ' p := fun {H H' σ' σ'' Γ Γ' us} _ g a e n => by
    refine ⟨a.keep _ _ e n, fun z => ?_⟩
    rcases a.sh p z with z | z
    · exact n z
    · rw [e] at z; cases z
  refine ⟨Γ, a0.rg, hk.mono _ _ _ (fun y Γ1 q vk H1 a1 r1 => ?_) q⟩
  refine ⟨Γ1, a1.rg, hv.mono _ _ _ (fun r Γ2 q v H2 a2 r2 => ?_) q⟩
  obtain ⟨ks, d, rfl, rfl, q⟩ := q
  obtain ⟨l1, n1⟩ := keepl a0.rg a1 upd_same fun z => g.there z hp
  obtain ⟨l2, n2⟩ := keepl a1.rg a2 l1 n1
  obtain ⟨b, rfl, hb⟩ := key_at (.inr (Rep.imm r1 (a2.imm a1.rg)))
  refine ⟨l2, kT ks, b, rfl, hb, ?_⟩
  have im : Imm H2 (upd H2 p (.dT [(kT ks, v)])) := Imm.upd (.inr (by rw [l2]; trivial))
  have a02 := (a0.trans g a1).trans g a2
  refine q p _ _ (?_ : Aft X.K H Γ (upd H2 p (.dT [(kT ks, v)])) σ Γ2) ⟨rfl, ⟨_, upd_same, v, [], rfl, r2.imm im, rfl⟩, fp1 rfl n2, fp1 rfl (.inr hp)⟩
  refine ⟨fun c u z1 z2 => ?_, ?_, a02.sh, a02.im.trans im⟩
  · have nc : c ≠ p := fun z => by rw [z, hp] at z1; cases z1
    rw [upd_ne nc]
    intro _
    exact a02.keep c u z1 z2
  · have g2 := a02.rg
    refine ⟨g2.len, fun j dd z => ?_, fun j q o z => ?_, g2.raw, g2.one, g2.tbm im⟩
    · obtain ⟨w, w1, w2⟩ := g2.fz _ _ z
      exact ⟨w, w1, w2.imm im⟩
    · obtain ⟨w1, w2⟩ := g2.ow _ _ _ z
      exact ⟨w1, w2.keep (fun a ha u => keep_upd a u fun y => n2 (by rw [← y]; exact own_mk z ha)) im⟩
end DL
/-! DL25: dicts keyed by tuples: d.pop(k), d.items(), d != {}. -/
namespace DL
open PySem PySem.Spec PyProof.Rows L2
/-! ### d.pop(k), there -/
def gPopT : GM := fun o ds k => match o, ds with
  | .dT kvs, [.tuple kd] => ∃ (ks : List Int) (d : D), kd = ks.map .int ∧ dtGet kvs ks = some d ∧ k d (.dT (dtDrop kvs ks))
  | _, _ => False
theorem dropK_len {κ : Type} [DecidableEq κ] (kvs : List (κ × V)) (k : κ) : (dropK kvs k).length ≤ kvs.length := by
  unfold dropK
  exact List.length_filter_le _ _
theorem KT.dropd {H : Hp} {kvs : List (List Key × V)} {xs : List (List Key × Addr × Value)} (k : List Key) (r : KT H kvs xs) : KT H (dropK kvs k) (withoutH xs k) := by
  induction r with
  | nil => exact .nil
  | @cons p q ps qs h t ih =>
    unfold dropK withoutH at *
    rw [List.filter_cons, List.filter_cons, ← h.1]
    by_cases e : p.1 = k
    · simpa [e] using ih
    · have e1 : decide (p.1 ≠ k) = true := by simpa using e
      have e2 : (!decide (p.1 = k)) = true := by simpa using e
      first
        | (rw [if_pos (by simpa using e), if_pos (by simpa using e)]; exact .cons h ih)
        | (simp only [e, not_false_eq_true, decide_true, if_true, decide_false, Bool.not_false]; exact .cons h ih)
theorem mt_popT {X : Cx} (hu : X.A.units + 64 < cLine) : MtD X "dict" "dict.pop" gPopT := by
  refine ⟨fun o ds k q => ?_, ⟨fun x xs H Q => ∃ (a b : Addr) (kvs : List (List Key × V)) (k : List Key) (v : V), x = .ref a ∧ xs = [.ref b] ∧ H a = some (.dT kvs) ∧ H b = some (.tup (k.map kV)) ∧ valV kvs k = some v ∧ Q v (upd H a (.dT (dropK kvs k))), ?_, fun H p o ds vs Q ok rp q => ?_⟩, fun o ds k k' h q => ?_⟩
  · unfold gPopT at q ⊢
    split at q
    · obtain ⟨ks, d, e1, e2, q⟩ := q
      exact ⟨ks, d, e1, e2, rfl, q⟩
    · exact q
  · intro pins s σ H x xs v us Q I rx rxs h
    obtain ⟨a, b, kvs, k, z, rfl, rfl, ha, hb, hv, q⟩ := h
    cases rx
    rw [Vals.ref1 rxs]
    obtain ⟨zl, hd, ys, rel, dd⟩ := dt_of I.hok ha
    have hsz : ys.length ≤ sizeLine := by rw [← Paired.length rel]; exact zl
    obtain ⟨w', hw, rw'⟩ := RelO.some_of (v := z) (o := (atKey ys k).map (·.2)) (by rw [← hv]; exact KT.val rel k)
    obtain ⟨p, hp, hp2⟩ := Option.map_eq_some_iff.mp hw
    refine call_pop_heap (more := []) (hsz := hsz) (.inl rfl) (PySem.F.args_dict_pop_2 _ _) (tupleKind_room_in1 (by omega)) (key_of I.hok hb) hd dd hp fun h' dd' hs => ?_
    rw [hp2]
    obtain ⟨o, es, ep, ho, hx, hdt, he, _, hn⟩ := dd'
    refine ⟨z, upd H a (.dT (dropK kvs k)), d_write I (by rw [ha]; exact True.intro) hs ⟨o, ho⟩ ⟨Nat.le_trans (dropK_len kvs k) zl, hd, _, (KT.dropd k rel).keeps fun c ws ec => ?_, o, es, ep, ho, hx, hdt, he, hn⟩, rw', q⟩
    rw [upd_ne (ne_of ec ha (fun z => nomatch z))]
    exact ec
  · unfold gPopT at q
    split at q
    · obtain ⟨ks, d, rfl, eg, q⟩ := q
      obtain ⟨ws, e, pr⟩ := ok
      obtain ⟨v, w, rfl, r1, r2⟩ := rp
      cases (show w = [] from r2)
      obtain ⟨b, vs2, rfl, hb, rb⟩ := r1
      rw [Reps.ints rb] at hb
      obtain ⟨v, ev, rv⟩ := (pr.get (fun _ _ => kT_inj) ks).1 d eg
      have im : Imm H (upd H p (.dT (dropK ws (kT ks)))) := Imm.upd (.inr (by rw [e]; trivial))
      exact ⟨p, b, ws, kT ks, v, rfl, rfl, e, by rw [kT_kV]; exact hb, ev, q v _ upd_k im ⟨_, upd_same, (pr.drop (fun _ _ => kT_inj)).imm im⟩ (rv.imm im)⟩
    · exact q.elim
  · unfold gPopT at q ⊢
    split at q
    · obtain ⟨ks, d, e1, e2, q⟩ := q
      exact ⟨ks, d, e1, e2, h _ _ q⟩
    · exact q
/-! ### d.items() -/
theorem Inv.frzT2 {X : Cx} {pins : List (Addr × Obj)} {σ : Sl} {H : Hp} {s : Shared} {d : Addr} {o : Obj} {kvs : List (List Key × V)} (I : Inv X pins σ H s) (h : H d = some (.frz o (.dT kvs))) :
    (d == sysModules) = false ∧ s.heap.get? d = some o ∧ o.ExactDict ∧ ∃ (es : Array DictEntry) (ep : Nat), o.data = .dict es ep ∧ es.size = kvs.length ∧
      ∀ (i : Nat) (k : List Key) (v : V), kvs[i]? = some (k, v) → ∃ (en : DictEntry) (q : Addr), es[i]? = some en ∧ en.key = .ref q ∧ H q = some (.tup (k.map kV)) ∧ RelV v en.val := by
  obtain ⟨hd, z, hs, xs, pr, o', es, ep, ho, hx, hdt, he, _⟩ := I.hok d _ h
  rw [hd] at ho
  cases ho
  refine ⟨hs, hd, hx, es, ep, hdt, ?_, fun i k v e => ?_⟩
  · have l1 : es.size = xs.length := size_of_entries he
    have l2 : kvs.length = xs.length := Paired.length pr
    omega
  · obtain ⟨b, hb, e1, e2, e3⟩ := paired_get pr e
    have q := entry_at he i
    rw [hb] at q
    exact ⟨_, b.2.1, q, rfl, by rw [← e2], e3⟩
def Itit (d : Addr) (o : Obj) (kvs : List (List Key × V)) : It :=
  ⟨fun i H => H d = some (.frz o (.dT kvs)) ∧ i < kvs.length, fun i H x H' => ∃ T q k v, kvs[i]? = some (k, v) ∧ H q = some (.tup (k.map kV)) ∧ x = .ref T ∧ H T = none ∧ H' = upd H T (.tup [.ref q, v]), fun i H => H d = some (.frz o (.dT kvs)) ∧ kvs.length ≤ i⟩
theorem turn_itemsT {P : Program} {w : World} {K : PySem.W.Frag} {d : Addr} {o : Obj} {es : Array DictEntry} {ep : Nat} {kvs : List (List Key × V)} {elts : List Expr} {kk : Nat} {tpos : Pos} (it : Addr) (hod : o.data = .dict es ep) :
    Turn P w K (.Tuple elts kk tpos) (Itit d o kvs) [it] it (fun i h => ∃ ok ov, IsItemIter h it d i kvs.length ep ok ov) where
  mem := by simp
  obj := fun i h st b hb => by
    have e : b = it := by simpa using hb
    subst e
    obtain ⟨ok, ov, e⟩ := st
    exact ⟨_, e, fun v z => nomatch z⟩
  keep := fun i h h' st k => let ⟨ok, ov, e⟩ := st; ⟨ok, ov, k it (by simp) _ e⟩
  item := by
    intro X hP hw hK hc i pins s σ H E I hf st hg
    subst hP hw hK
    obtain ⟨hd, hi⟩ := hg
    obtain ⟨hs, hgd, hx, es', ep', hdt, hsz, ent⟩ := Inv.frzT2 I hd
    obtain ⟨rfl, rfl⟩ := dict_ep hod hdt
    obtain ⟨⟨k, v⟩, hkv⟩ : ∃ p, kvs[i]? = some p := ⟨kvs[i], List.getElem?_eq_getElem hi⟩
    obtain ⟨en, q, hen, hkey, hq, rv⟩ := ent i k v hkv
    obtain ⟨ok, ov, he⟩ := st
    rw [← hsz] at he
    have hlt : it < s.heap.objs.size := Heap.lt_size he
    have hi' : i < es'.size := by omega
    have een : es'[i] = en := by rw [Array.getElem?_eq_getElem hi'] at hen; exact Option.some.inj hen
    refine wpAny_pyNext_items_item_raw he ⟨o, hgd, hx, hdt⟩ hi' fun h' ho hT hz hk => ?_
    rw [een] at ho hT
    refine ⟨_, rfl, wpAny_letOwnedTupleGo_items (s := { s with heap := h' }) ho fun h'' he' sb => ?_⟩
    have hT2 : h''.get? s.heap.objs.size = some { cls := .type "tuple", data := .seq #[en.key, en.val] } := (sb.2 _ (Nat.ne_of_gt hlt)).trans hT
    have new : ObjOk X.prog X.w (upd H s.heap.objs.size (.tup [.ref q, v])) h'' s.heap.objs.size (.tup [.ref q, v]) :=
      ⟨by show 2 ≤ sizeLine; decide, [en.key, en.val], .cons hkey (.cons rv .nil), ⟨_, hT2, rfl, _, rfl⟩⟩
    have I1 : Inv X pins σ (upd H s.heap.objs.size (.tup [.ref q, v])) { s with heap := h'' } :=
      I.turnedNew (t' := s.toks) (ch := [it]) (fun b ob hb e => (sb.2 b (by simpa using hb)).trans (hk b ob (by simpa using hb) e)) hf (Nat.le_refl _) new
    refine ⟨.ref s.heap.objs.size, _, I1, rfl, ⟨_, q, k, v, hkv, hq, rfl, I.hok.fresh (Nat.le_refl _), rfl⟩, ⟨_, _, by rw [← hsz]; exact he'⟩, fun b hb => ?_⟩
    have e : b = it := by simpa using hb
    rw [e, upd_ne (Nat.ne_of_lt hlt)]
    exact (hf it (by simp)).1
  done := by
    intro X hP hw hK hc i pins s σ H E I hf st hg
    subst hP hw hK
    obtain ⟨hd, hi⟩ := hg
    obtain ⟨f0, f1, f2, f3, f4, f5⟩ := hf it (by simp)
    obtain ⟨hs, hgd, hx, es', ep', hdt, hsz, ent⟩ := Inv.frzT2 I hd
    obtain ⟨rfl, rfl⟩ := dict_ep hod hdt
    obtain ⟨ok, ov, he⟩ := st
    rw [← hsz] at he
    exact wpAny_pyNext_items_end_raw (I.ok.hd hc) he ⟨o, hgd, hx, hdt⟩ (by omega) fun h' eb => ⟨rfl, I.turned (t' := s.toks) (fun b ob hb e => eb b ob hb e) f0 f1 f3 f4 f5⟩
  self := fun A i s Q E st h => let ⟨_, _, e⟩ := st; PySem.W.kcp_self e h
section
variable {X : Cx} {tg e : Expr} {td : TE} {apos cpos : Pos}
def iItemsT (td : TE) : TI := fun σ H R => td σ H fun x H1 => ∃ d o kvs, x = .ref d ∧ H1 d = some (.frz o (.dT kvs)) ∧ R (Itit d o kvs) H1
theorem pi_itemsT {elts : List Expr} {kk : Nat} {tpos : Pos} (he : PE X e td) (hbase : attributeBase e "items" X.env (eval e X.env) = eval e X.env := by rfl) (hline : (apos.endLine == cpos.line) = true := by rfl) :
    PI X (.Tuple elts kk tpos) (.Call (.Attribute e "items" apos) [] [] cpos) (iItemsT td) := by
  refine ⟨fun pins s σ H R I h => ?_⟩
  refine wpAny_Call_method (T := "dict") (id := "dict.items") hbase rfl hline F.plainAttrs_dict F.slot_dict_items F.type_dict_items (thn (he.run pins s σ H _ I h) fun u s1 ⟨x, H1, I1, rx, d, o, kvs, ex, hd, q⟩ => ?_)
  subst ex
  obtain rfl : u = Value.ref d := rx
  obtain ⟨hs, hgd, hx, es, ep, hdt, hsz, ent⟩ := Inv.frzT2 I1 hd
  have hr : s1.heap.DictRaw d es ep := ⟨o, hgd, hx, hdt⟩
  refine ⟨hr.typeIs, fun a e => ?_, ?_⟩
  · cases e
    exact ⟨o, hgd, hx.2.1⟩
  have I2 : Inv X pins σ H1 { s1 with heap := s1.heap.push { cls := .type "dict_items", data := .fields #[.ref d] } } := I1.kept (t' := s1.toks) fun b ob q => Heap.get?_push_of_some _ q
  have fin : wpAny (model X.prog X.w) X.A (pyIter (.ref s1.heap.objs.size)) (PIE X pins σ (.Tuple elts kk tpos) R) X.xe { s1 with heap := s1.heap.push { cls := .type "dict_items", data := .fields #[.ref d] } } := by
    refine wpAny_pyIter_items_raw (d := d) ⟨_, Heap.get?_push_size _ rfl, rfl, rfl⟩ (hr.at fun o e => Heap.get?_push_of_some _ e) (pi_one (tk := s1.toks) I2 _ (turn_itemsT _ hdt) ⟨.none, .none, ?_⟩ q)
    rw [hsz]
    exact Heap.get?_push_size _ rfl
  show wpAny _ _ (callWith cpos (.builtin "dict.items") [.ref d] [] []) _ X.xe s1
  exact method_meetsIn F.slot_dict_items F.entry_dict_items rfl (PySem.evalArgs_none ⟨rfl, hr.typeIs, F.args_dict_items_1 _, _, meets_dict_items_raw d hs, ⟨es, ep, hr⟩, fin⟩)
end
/-- the pairs of a dict, as data -/
def itD (kvs : List (List Int × D)) : List D := kvs.map fun q => .tuple [tI q.1, q.2]
def tiItemsT (t : TD) : TID := fun Γ Q => t Γ fun r Γ1 => match r with
  | .bw i => (match Γ1[i]? with
    | some (.ow _ (.dR kvs)) => kvs.length ≤ sizeLine ∧ Q (itD kvs) none Γ1
    | _ => False)
  | _ => False
theorem PRep.at_ {K : PySem.W.Frag} {H : Hp} {κ κ' : Type} {f : κ → κ'} : ∀ {kvs : List (κ × D)} {vs : List (κ' × V)} {i : Nat} {k : κ} {d : D}, PRep K H f kvs vs → kvs[i]? = some (k, d) → ∃ v, vs[i]? = some (f k, v) ∧ Rep K H d v
  | [], _, _, _, _, _, e => by simp at e
  | (k, d) :: r, _, 0, _, _, h, e => by
    obtain ⟨v, r', rfl, h1, _⟩ := h
    simp only [List.getElem?_cons_zero, Option.some.injEq, Prod.mk.injEq] at e
    obtain ⟨rfl, rfl⟩ := e
    exact ⟨v, rfl, h1⟩
  | (k, d) :: r, _, i + 1, _, _, h, e => by
    obtain ⟨v, r', rfl, _, h2⟩ := h
    simp only [List.getElem?_cons_succ] at e
    obtain ⟨u, e1, e2⟩ := PRep.at_ h2 e
    exact ⟨u, by simpa using e1, e2⟩
theorem pid_itemsT {X : Cx} {e : Expr} {te : TD} {elts : List Expr} {kk : Nat} {tpos apos cpos : Pos} (he : PD X e te) (hbase : attributeBase e "items" X.env (eval e X.env) = eval e X.env := by rfl) (hline : (apos.endLine == cpos.line) = true := by rfl) :
    PID X (.Tuple elts kk tpos) (.Call (.Attribute e "items" apos) [] [] cpos) (tiItemsT te) := by
  refine ⟨PI.imp (pi_itemsT he.run hbase hline) fun σ H R ⟨Γ, g, q⟩ => ⟨Γ, g, he.mono _ _ _ (fun r Γ1 q => ?_) q⟩, fun Γ Q Q' h => he.mono _ _ _ fun r Γ1 q => ?_⟩
  · intro v H1 a1 r1
    split at q
    · split at q
      · rename_i i _ p kvs e1
        obtain ⟨w1, o, vs, w2, pr⟩ := a1.rg.ow _ _ _ e1
        have ev := (show σ[i]? = some (some v) from r1).symm.trans w1
        cases ev
        refine ⟨p, o, vs, rfl, w2, ?_⟩
        refine q.2 (Itit p o vs) H1 (fun H => H p = some (.frz o (.dT vs)) ∧ PRep X.K H kT kvs vs) a1 ⟨fun i H h hi => ⟨h.1, ?_⟩, fun i d H x H' h e y => ?_, fun H h => ⟨h.1, ?_⟩, by unfold itD; rw [List.length_map]; exact q.1⟩ fun H2 σ2 Γ2 im _ _ => ⟨im _ _ w2 (fun z => z), pr.imm im⟩
        · rw [pr.len]; unfold itD at hi; rw [List.length_map] at hi; exact hi
        · obtain ⟨T, b, k, u, e2, hb, rfl, n, rfl⟩ := y
          refine ⟨same_upd n, ?_⟩
          obtain ⟨⟨k', d'⟩, e3, rfl⟩ := map_at (show (kvs.map fun q => PyData.tuple [tI q.1, q.2])[i]? = some d from e)
          obtain ⟨u', e4, ru⟩ := h.2.at_ e3
          rw [e2] at e4
          cases e4
          have im := imm_same (same_upd (o := .tup [.ref b, u]) n)
          rw [kT_kV] at hb
          exact ⟨T, _, rfl, upd_same, .ref b, [u], rfl, ⟨b, _, rfl, StT.imm hb im, Reps.of_ints _⟩, u, [], rfl, ru.imm im, rfl⟩
        · unfold itD
          rw [List.length_map, pr.len]
          exact Nat.le_refl _
      · exact q.elim
    · exact q.elim
  · split at q
    · split at q
      · exact ⟨q.1, h _ _ _ q.2⟩
      · exact q
    · exact q
/-! ### d != {} -/
theorem samePairs0 {prog : Program} {w : World} {A : Around} {E : Value → Shared → Prop} {Q : Bool → Shared → Prop} {s : Shared} {nm : String} {a b : Addr} {es es' : Array DictEntry} {ep ep' : Nat} (ha : (a == sysModules) = false) (hb : (b == sysModules) = false) (da : s.heap.DictRaw a es ep) (db : s.heap.DictRaw b es' ep') (h0 : es'.size = 0)
    (h : Q (decide (es.size = 0)) s) : wpAny (model prog w) A (Builtin.Dict.samePairs nm a b) Q E s := by
  obtain ⟨oa, hoa, _, hda⟩ := id da
  obtain ⟨ob, hob, _, hdb⟩ := id db
  unfold Builtin.Dict.samePairs Builtin.Dict.showsAll
  rw [if_neg (show ¬ (a == sysModules) = true by rw [ha]; exact Bool.false_ne_true), if_neg (show ¬ (b == sysModules) = true by rw [hb]; exact Bool.false_ne_true)]
  refine wpAny_bind (wpAny_pure (wpAny_bind (wpAny_pure ?_)))
  refine wpAny_bind (wpAny_dictEntries hoa hda ?_)
  dsimp only
  refine wpAny_bind (wpAny_dictEntries hob hdb ?_)
  by_cases hsz : es.size = 0
  · rw [if_neg (by rw [hsz, h0]; simp)]
    rw [decide_eq_true hsz] at h
    refine wpAny_bind (wpAny_dictEpoch hoa hda ?_)
    refine wpAny_bind ?_
    rw [Std.Legacy.Range.forIn_eq_forIn_range']
    simp only [Std.Legacy.Range.size, Nat.sub_zero, Nat.add_sub_cancel, Nat.div_one, hsz, List.range'_zero, List.forIn_nil]
    exact wpAny_pure (wpAny_pure h)
  · rw [if_pos (by rw [h0]; simpa using hsz)]
    rw [decide_eq_false hsz] at h
    exact wpAny_bind (wpAny_rule (wpAny_pure h))
theorem rc_ne_empty {prog : Program} {w : World} {A : Around} {E Q : Value → Shared → Prop} {s : Shared} {a b : Addr} {es es' : Array DictEntry} {ep ep' : Nat} (ha : (a == sysModules) = false) (hb : (b == sysModules) = false) (da : s.heap.DictRaw a es ep) (db : s.heap.DictRaw b es' ep') (h0 : es'.size = 0) (hu : A.units < cLine)
    (h : Q (.bool (!decide (es.size = 0))) s) : wpAny (model prog w) A (richCompare .NotEq (.ref a) (.ref b)) Q E s := by
  refine wpAny_richCompare_same_room (op := .NotEq) da.typeIs db.typeIs PySem.F.slot_dict_ne (wpAny_call_entry PySem.F.slot_dict_ne da.typeIs PySem.F.entry_dict_ne ?_ (PySem.F.args_dict_ne_2 _ _)) hu
  show wpAny _ _ (Builtin.Dict.dictSlotArgs "__ne__" ⟨[.ref a, .ref b], []⟩ >>= _) _ _ s
  refine wpAny_bind ?_
  unfold Builtin.Dict.dictSlotArgs
  refine wpAny_bind (wpAny_notOrdered_dict da.typeIs ?_)
  show wpAny _ _ (pure (Value.ref a, Value.ref b)) _ _ s
  refine wpAny_pure ?_
  refine wpAny_bind (wpAny_isInstance (T := "dict") db.typeIs PySem.F.sub_dict_dict ?_)
  simp only [Bool.not_true, Bool.false_eq_true, if_false]
  refine wpAny_bind (wpAny_pure (wpAny_bind (wpAny_pure ?_)))
  refine wpAny_bind (samePairs0 ha hb da db h0 ?_)
  refine wpAny_pure ⟨_, rfl, ?_, ?_⟩
  · exact fun z => nomatch z
  · cases e : decide (es.size = 0) <;> rw [e] at h <;> exact h
def rNeE : R2 := fun x y H Q => ∃ p q kvs, x = .ref p ∧ y = .ref q ∧ Rd H p (.dT kvs) ∧ H q = some (.dT []) ∧ Q (.bl (!decide (kvs = []))) H
theorem Inv.rdT {X : Cx} {pins : List (Addr × Obj)} {σ : Sl} {H : Hp} {s : Shared} {d : Addr} {kvs : List (List Key × V)} (I : Inv X pins σ H s) (h : Rd H d (.dT kvs)) : (d == sysModules) = false ∧ ∃ es ep, s.heap.DictRaw d es ep ∧ es.size = kvs.length := by
  obtain ⟨z, hs, xs, pr, o', es, ep, ho, hx, hdt, he, _⟩ := (show ObjOk X.prog X.w H s.heap d (.dT kvs) from rd_of I.hok h)
  have l1 : es.size = xs.length := size_of_entries he
  have l2 : kvs.length = xs.length := Paired.length pr
  exact ⟨hs, es, ep, ⟨o', ho, hx, hdt⟩, by omega⟩
theorem op_neE {X : Cx} (hu : X.A.units + 64 < cLine) : OpR X (compareOp .NotEq) rNeE := by
  intro pins s σ H x y v u Q I rx ry h
  obtain ⟨p, q, kvs, rfl, rfl, hp, hq, g⟩ := h
  cases rx
  cases ry
  obtain ⟨a1, es, ep, a2, a3⟩ := Inv.rdT I hp
  obtain ⟨b1, es', ep', b2, b3⟩ := Inv.rdT I (Rd.of hq)
  show wpAny _ _ (richCompare .NotEq _ _) _ _ _
  refine rc_ne_empty a1 b1 a2 b2 (by rw [b3]; rfl) (by omega) ⟨.bl _, H, I, ?_, g⟩
  have e : decide (es.size = 0) = decide (kvs = []) := by
    rw [a3]
    cases kvs <;> simp
  rw [e]
  rfl
def tdDne (ta : TD) : TD := fun Γ Q => ta Γ fun x Γ1 => dtNow Γ1 x fun kvs => Q (.fz (.bool (!decide (kvs = [])))) Γ1
theorem pb_dne {X : Cx} {a : Expr} {ta : TD} {pos dpos : Pos} (hu : X.A.units + 64 < cLine) (ha : PD X a ta) (hm : behindInMarks .NotEq (.Dict [] [] dpos) = false := by first | rfl | exact nomark _) : PB X (.Compare a [.NotEq] [.Dict [] [] dpos] pos) (tdB (tdDne ta)) := by
  have m : Mono (tdDne ta) := fun Γ Q Q' h => ha.mono _ _ _ fun x Γ1 => dtNow_mono fun kvs q => h _ _ q
  have ok : ∀ {σ : Sl} {H : Hp} {Q : VK}, lift X.K (tdDne ta) σ H Q → (tOp rNeE (lift X.K ta) tDNewT) σ H Q := fun {σ H Q} ⟨Γ, g0, q⟩ => ⟨Γ, g0, ha.mono _ _ _ (fun x Γ1 q1 v H1 a1 r1 => by
    intro d hd
    obtain ⟨p, kvs, vs, rfl, hp, pr, q1⟩ := dtNow_ok a1.rg r1 q1
    have sm : Same H1 (upd H1 d (.dT [])) := same_upd hd
    have e : decide (vs = []) = decide (kvs = []) := by
      have := pr.len
      cases vs <;> cases kvs <;> simp at this ⊢
    refine ⟨p, d, vs, rfl, rfl, Rd.of (sm _ _ hp), upd_same, ?_⟩
    rw [e]
    exact q1 _ _ (a1.trans g0 (Aft.same a1.rg sm)) rfl) q⟩
  exact ⟨PT.imp (pt_cmpR (op_neE hu) ha.run pe_dnewT hm) fun σ H Q q => tTest_imp (fun _ _ _ => ok) (tdB_ok m q), tdB_mono m⟩
end DL
/-! DL26: dicts keyed by tuples: sorted(d), d.get(k, x). -/
namespace DL
open PySem PySem.Spec PyProof.Rows L2
/-! ### sorted(d): its keys in order -/
theorem alikeAll_ints : ∀ p q : List Int, PySem.W.alikeAll (p.map PyData.int) (q.map PyData.int) = true
  | [], _ => by cases ‹List Int› <;> rfl
  | _ :: _, [] => rfl
  | x :: xs, y :: ys => by
    show (true && PySem.W.alikeAll (xs.map PyData.int) (ys.map PyData.int)) = true
    rw [alikeAll_ints xs ys]
    rfl
theorem depthAll_int : ∀ p : List Int, PyData.depthAll (p.map PyData.int) ≤ 1
  | [] => by simp [PyData.depthAll]
  | x :: xs => by
    have := depthAll_int xs
    simp only [List.map_cons, PyData.depthAll, PyData.depth]
    omega
theorem depth_tI50 (xs : List Int) : (tI xs).depth ≤ 50 := by
  have := depthAll_int xs
  simp only [PyData.depth]
  omega
theorem alike_tI (xs ys : List Int) : PySem.W.alike (tI xs) (tI ys) = true := alikeAll_ints xs ys
theorem alike_tIs (xss : List (List Int)) : PySem.W.AllAlike (xss.map tI) := by
  intro d hd e he
  obtain ⟨a, _, rfl⟩ := List.mem_map.mp hd
  obtain ⟨b, _, rfl⟩ := List.mem_map.mp he
  exact alike_tI a b
def gSortKT : GT := fun kvs k => k (.new (.lst ((kvs.map fun q => tI q.1).mergeSort (PySem.W.dataLe false id))))
section
variable {prog : Program} {w : World} {A : Around} {E : Value → Shared → Prop} {s : Shared}
open PySem.W PySem.Calls PySem.SeqAt
/-- sorted(d), d a dict whose keys are vs -/
theorem sorted_dictKeys {β : Type} {vs : List Value} {bs : List β} {enc : β → PyData} {R : Value → β → Prop} {d : Addr} {o : Obj} {es : Array DictEntry} {ep : Nat} {Q : Value → Shared → Prop} (hh : A.in1.handled = none) (hs : (d == sysModules) = false) (ho : s.heap.get? d = some o) (hx : o.ExactDict) (hdt : o.data = .dict es ep)
    (hk : ∀ acc : List Value, acc.length = es.size → (∀ (j : Nat) (v : Value), acc[j]? = some v → ∃ en : DictEntry, es[j]? = some en ∧ v = en.key) → acc = vs) (e : EachIs R vs bs) (er : EachIs (fun v b => ∃ as, Reads s.heap v (enc b) as) vs bs)
    (hal : AllAlike (bs.map enc)) (ht : ∀ b ∈ bs, ∃ xs, enc b = .tuple xs) (hL : bs.length ≤ sizeLine) (hE : es.size ≤ sizeLine) (hu : ∀ b, b ∈ bs → A.units + 2 + (enc b).depth < cLine)
    (h : ∀ (h0 h' : Heap) (tk : Nat) (out : List Value) (en : Nat), (∀ b o, s.heap.get? b = some o → h0.get? b = some o) → out.length = bs.length → EachIs R out (bs.mergeSort (dataLe false enc)) → (∀ b o, h0.get? b = some o → h'.get? b = some o) → h'.get? h0.objs.size = some (seqObj "list" out.toArray en) → Q (.ref h0.objs.size) { s with heap := h', toks := tk }) : wpAny (model prog w) A (call (.builtin "sorted") [.ref d]) Q E s := by
  refine Calls.call_function_entry PyProof.Rows.kind_sorted PyProof.Rows.plain_sorted PyProof.Rows.entry_sorted (PyProof.Rows.args_sorted1 _) ?_
  unfold Builtin.«sorted»
  refine wpAny_bind (m := checkCount "sorted" 1 1 _) (wpAny_pure ?_)
  refine wpAny_bind (PySem.W.kdu_collect (A := A.in1) (L2.kdl_raw hs hx hdt) hh ho hE fun h' tk acc kp hacc => ?_)
  have hal2 : acc.toList = vs := hk _ (by rw [Array.length_toList]; exact hacc.1) fun j v ev => hacc.2 j v (by rw [← Array.getElem?_toList]; exact ev)
  rw [hal2]
  have hvl : vs.length ≤ sizeLine := by rw [e.length]; exact hL
  refine wpAny_bind (wpAny_newList ?_ hvl)
  have hoL : (h'.push (seqObj "list" vs.toArray 0)).get? h'.objs.size = some (seqObj "list" vs.toArray 0) := Heap.get?_push_size _ rfl
  show wpAny _ _ _ _ _ { s with heap := h'.push (seqObj "list" vs.toArray 0), toks := tk }
  have old : ∀ b o, s.heap.get? b = some o → (h'.push (seqObj "list" vs.toArray 0)).get? b = some o := fun b o q => Heap.get?_push_of_some _ (kp b o q)
  have lt : ∀ b o, s.heap.get? b = some o → b < h'.objs.size := fun b o q => Heap.lt_size (kp b o q)
  have er' : EachIs (fun v b => ∃ as, Reads (sortingHeap (h'.push (seqObj "list" vs.toArray 0)) h'.objs.size vs) v (enc b) as) vs bs := er.mono fun _ _ ⟨as, r⟩ => ⟨as, PyProof.Rows.Reads.keeps (fun b o q => sortingHeap_old (Nat.ne_of_lt (lt b o q)) (old b o q)) r⟩
  have hb : ∀ d, d ∈ bs.map enc → A.in1.in1.units + d.depth < cLine := fun d hd => by
    obtain ⟨b, hb, rfl⟩ := List.mem_map.mp hd
    exact hu b hb
  have ht' : ∀ d ∈ bs.map enc, ∃ xs, d = .tuple xs := fun d hd => by
    obtain ⟨b, hb, rfl⟩ := List.mem_map.mp hd
    exact ht b hb
  refine wpAny_bind (wpAny_holding (wpAny_call_entry PyProof.Rows.slot_list_sort ⟨_, hoL, rfl⟩ PyProof.Rows.entry_list_sort
    (list_sort_vals (s := { s with heap := h'.push (seqObj "list" vs.toArray 0), toks := tk }) hoL (SrtTup.sortsTups (s := { s with heap := sortingHeap (h'.push (seqObj "list" vs.toArray 0)) h'.objs.size vs, toks := tk }) (each_map (R := fun v d => ∃ as, Reads (sortingHeap (h'.push (seqObj "list" vs.toArray 0)) h'.objs.size vs) v d as) enc er') hal ht' hb) hvl ⟨_, rfl, ?_⟩) (PyProof.Rows.args_list_sort _)))
  obtain ⟨e', he'⟩ := PyProof.Rows.sortedHeap_at (vs := vs) (out := (sortVals (dataKind (sortingHeap (h'.push (seqObj "list" vs.toArray 0)) h'.objs.size vs) (bs.map enc)) false vs vs).toArray) hoL
  refine wpAny_pure ⟨_, rfl, h h' _ tk _ e' kp ?_ (sortVals_data false e er' hal) (fun b o q => ?_) he'⟩
  · rw [sortVals_length false rfl]; exact e.length
  · have hb : b < h'.objs.size := Heap.lt_size q
    rw [PyProof.Rows.sortedHeap_old (Nat.ne_of_lt hb) (by rw [size_push']; exact Nat.lt_succ_of_lt hb)]
    exact Heap.get?_push_of_some _ q
end
theorem ct_sorted {X : Cx} (hc : X.calm = true) (hu : X.A.units + 64 < cLine) : CallT X (.builtin "sorted") gSortKT := by
  refine ⟨⟨fun xs H Q => ∃ (d : Addr) (kvs : List (List Key × V)) (ks : List (List Int)), xs = [V.ref d] ∧ RdT H d kvs ∧ kvs.map (·.1) = ks.map kT ∧ ∀ (ys : List V) (p : Addr), Reps X.K H ((ks.map tI).mergeSort (PySem.W.dataLe false id)) ys → H p = none → Q (.ref p) (upd H p (.lst ys)), ?_, fun H a kvs vs Q hp pr q => ?_⟩, fun kvs k k' h q => h _ q⟩
  · intro pins s σ H xs us Q I r h
    obtain ⟨d, kvs, ks, rfl, hd, hks, q⟩ := h
    obtain ⟨u, rfl, rx⟩ := r.one
    cases rx
    obtain ⟨z, hs, ys, pr, o, es, ep, ho, hx, hdt, he, hn⟩ := hd.obj I.hok
    have l1 : es.size = ys.length := size_of_entries he
    have l2 : kvs.length = ys.length := Paired.length pr
    have l3 : kvs.length = ks.length := by
      have := congrArg List.length hks
      simpa using this
    -- the keys' tuples
    let vs : List Value := ys.map fun x => Value.ref x.2.1
    let ws : List V := ys.map fun x => V.ref x.2.1
    have rk : ∀ {kvs : List (List Key × V)} {ys : List (List Key × Addr × Value)} {ks : List (List Int)}, KT H kvs ys → kvs.map (·.1) = ks.map kT → Reps X.K H (ks.map tI) (ys.map fun x => V.ref x.2.1) := by
      intro kvs ys ks pr
      induction pr generalizing ks with
      | nil =>
        intro e
        cases ks with
        | nil => exact rfl
        | cons _ _ => cases e
      | @cons p y ps qs h t ih =>
        intro e
        cases ks with
        | nil => cases e
        | cons k ks =>
          simp only [List.map_cons, List.cons.injEq] at e
          refine ⟨_, _, rfl, ⟨y.2.1, k.map V.int, rfl, ?_, Reps.of_ints _⟩, ih e.2⟩
          have := h.2.1
          rw [e.1, kT_kV] at this
          exact this
    have rp := rk pr hks
    have rv : Vals ws vs := by
      show Vals (ys.map fun x => V.ref x.2.1) (ys.map fun x => Value.ref x.2.1)
      have := vals_refs (ys.map fun x => x.2.1)
      rw [List.map_map, List.map_map] at this
      exact this
    have hlen : ws.length = (ks.map tI).length := by simp only [ws, List.length_map]; omega
    have zf := zip_fst hlen
    have mem1 : ∀ b ∈ (ks.map tI).zip ws, b.1 ∈ ks.map tI := fun b hb => (List.of_mem_zip (a := b.1) (b := b.2) hb).1
    have er := each_reps rp rv
    have hzl : ((ks.map tI).zip ws).length ≤ sizeLine := by rw [List.length_zip, List.length_map]; omega
    refine sorted_dictKeys (vs := vs) (bs := (ks.map tI).zip ws) (enc := fun b => b.1) (R := fun (u : Value) (b : D × V) => RelV b.2 u ∧ Rep X.K H b.1 b.2) (I.ok.hd hc) hs ho hx hdt (fun acc al ae => ?_) er (er.mono fun u b z => rep_reads I z.2 z.1) ?_ (fun b hb => ?_) hzl (by omega) (fun b hb => ?_) fun h0 h' tk out en k0 ho' e k1 ea => ?_
    · apply List.ext_getElem?
      intro j
      show acc[j]? = (ys.map fun x => Value.ref x.2.1)[j]?
      rw [List.getElem?_map]
      cases hj : acc[j]? with
      | none =>
        have h1 := List.getElem?_eq_none_iff.mp hj
        rw [List.getElem?_eq_none (by omega)]
        rfl
      | some v =>
        obtain ⟨en, hen, hv⟩ := ae j v hj
        have qe := entry_at he j
        rw [hen] at qe
        cases hb : ys[j]? with
        | none =>
          rw [hb] at qe
          exact nomatch (show some en = none from qe)
        | some b =>
          rw [hb] at qe
          have e2 : en = entryOfKey (tupleKind (mixKind X.prog X.w)) b := Option.some.inj qe
          rw [hv, e2]
          rfl
    · rw [zf]; exact alike_tIs ks
    · obtain ⟨k, _, ek⟩ := List.mem_map.mp (mem1 b hb)
      exact ⟨_, ek.symm⟩
    · obtain ⟨k, _, ek⟩ := List.mem_map.mp (mem1 b hb)
      have := depth_tI50 k
      rw [ek] at this
      omega
    · obtain ⟨r1, r2⟩ := reps_each e
      have ee : (((ks.map tI).zip ws).mergeSort (PySem.W.dataLe false fun b => b.1)).map (·.1) = (ks.map tI).mergeSort (PySem.W.dataLe false id) := by
        have := sort_map (fun b : D × V => b.1) (PySem.W.dataLe false id) ((ks.map tI).zip ws)
        rw [zf] at this
        exact this
      rw [ee] at r1
      have hl2 : ((((ks.map tI).zip ws).mergeSort (PySem.W.dataLe false fun b => b.1)).map (·.2)).length ≤ sizeLine := by
        rw [List.length_map, (List.mergeSort_perm _ _).length_eq]; exact hzl
      have I1 : Inv X pins σ H { s with heap := h0, toks := tk } := I.kept k0
      exact ⟨.ref _, upd H h0.objs.size (.lst _), I1.laid (t' := tk) k1 (Nat.le_refl _) ⟨hl2, out, en, r2, ea⟩, rfl, q _ _ r1 (I1.hok.fresh (Nat.le_refl _))⟩
  · refine ⟨a, vs, kvs.map (·.1), rfl, hp, by rw [pr.keys, List.map_map]; rfl, fun ys p h1 hn => ?_⟩
    refine q _ _ (same_upd hn) ⟨rfl, p, rfl, hn, _, upd_same, ?_⟩
    rw [List.map_map] at h1
    exact h1.imm (imm_same (same_upd hn))
/-! ### d.get(k, x) -/
def tGetT (td ty tx : TE) : TE := fun σ H Q => td σ H fun x H1 => (∃ (a : Addr) (kvs : List (List Key × V)), x = .ref a ∧ RdT H1 a kvs) ∧ ty σ H1 fun y H2 => tx σ H2 fun z H3 => ∃ r, AtT H3 x y r ∧ Q (r.getD z) H3
theorem pe_getT {X : Cx} {o e f : Expr} {apos cpos : Pos} {td ty tx : TE} (hu : X.A.units + 1 < cLine) (ho : PE X o td) (he : PE X e ty) (hf : PE X f tx) (m : M2 X o "get" apos e f cpos) : PE X (.Call (.Attribute o "get" apos) [e, f] [] cpos) (tGetT td ty tx) := by
  refine ⟨fun pins s σ H Q I h => ?_⟩
  refine wpAny_Call_method m.base m.few m.line PySem.F.plainAttrs_dict PySem.F.slot_dict_get PySem.F.type_dict_get (thn (ho.run pins s σ H _ I h) fun v s1 ⟨x, H1, I1, rx, ⟨a, kvs, ex, g⟩, q1⟩ => ?_)
  subst ex
  cases rx
  refine ⟨g.ty I1, g.noDict I1, ?_⟩
  rw [m.trees]
  refine Calls.callWith_builtin rfl (Calls.evalArgs_plain (Calls.spliced_cons (thn (he.run pins s1 σ H1 _ I1 q1) fun iv s2 ⟨y, H2, I2, ry, q2⟩ =>
    Calls.spliced_cons (thn (hf.run pins s2 σ H2 _ I2 q2) fun fv s3 ⟨z, H3, I3, rz, r, ⟨a', b, kvs', k, ea, ey, g', hb, l⟩, q3⟩ => Calls.spliced_nil ?_))))
  cases ea
  subst ey l
  cases ry
  exact t_get2 hu I3 g' hb rz fun w' s4 I4 rw' => ⟨_, H3, I4, rw', q3⟩
def tdGet2 (td tk tx : TD) : TD := fun Γ Q => td Γ fun x Γ1 => dtOf Γ1 x fun _ => tk Γ1 fun y Γ2 => tx Γ2 fun z Γ3 => dtOf Γ3 x fun kvs => dat Γ3 y fun kd => ∃ (ks : List Int) (dz : D), kd = tI ks ∧ z = .fz dz ∧ Q (.fz ((dtGet kvs ks).getD dz)) Γ3
theorem pd_get2 {X : Cx} {o e f : Expr} {apos cpos : Pos} {td tk tx : TD} (hu : X.A.units + 64 < cLine) (ho : PD X o td) (he : PD X e tk) (hf : PD X f tx) (hbase : attributeBase o "get" X.env (eval o X.env) = eval o X.env := by rfl)
    (hfew : ((backTo cpos (starEach [e, f] X.env)).all (fun x => !x.1) && (backToKw cpos (keywordEach [] X.env)).all (fun x => x.1.isSome) && decide (([e, f] : List Expr).length + ([] : List Keyword).length + (if ([] : List Keyword).isEmpty then 0 else 1) < 30)) = true := by rfl)
    (hline : (apos.endLine == cpos.line) = true := by rfl) (htrees : backTo cpos (starEach [e, f] X.env) = [(false, eval e X.env), (false, eval f X.env)] := by rfl) :
    PD X (.Call (.Attribute o "get" apos) [e, f] [] cpos) (tdGet2 td tk tx) := by
  refine ⟨PE.imp (pe_getT (by omega) ho.run he.run hf.run ⟨hbase, hfew, hline, htrees⟩) fun σ H Q ⟨Γ, g0, q⟩ => ⟨Γ, g0, ho.mono _ _ _ (fun x Γ1 q1 v H1 a1 r1 => ?_) q⟩,
    fun Γ Q Q' h => ho.mono _ _ _ fun x Γ1 => dtOf_mono fun _ => he.mono _ _ _ fun y Γ2 => hf.mono _ _ _ fun z Γ3 => dtOf_mono fun kvs => dat_mono fun kd ⟨ks, dz, e1, e2, q⟩ => ⟨ks, dz, e1, e2, h _ _ q⟩⟩
  obtain ⟨p, kvs0, vs0, rfl, hp0, pr0, q1⟩ := dtOf_ok a1.rg r1 q1
  refine ⟨⟨p, vs0, rfl, hp0⟩, Γ1, a1.rg, he.mono _ _ _ (fun y Γ2 q2 u H2 a2 r2 => ?_) q1⟩
  refine ⟨Γ2, a2.rg, hf.mono _ _ _ (fun z Γ3 q3 v3 H3 a3 r3 => ?_) q2⟩
  have a12 := a1.trans g0 a2
  have a13 := a12.trans g0 a3
  have a23 := a2.trans a1.rg a3
  obtain ⟨p', kvs, vs, ep, hp, pr, q3⟩ := dtOf_ok a3.rg (r1.later g0 a1.rg a23) q3
  cases ep
  obtain ⟨kd, nk, ks, dz, rfl, rfl, q5⟩ := dat_ok a3.rg (r2.later a1.rg a2.rg a3) q3
  obtain ⟨b', rfl, hb'⟩ := key_at nk
  have g := pr.get (fun _ _ => kT_inj) ks
  refine ⟨valV vs (kT ks), ⟨p, b', vs, kT ks, rfl, rfl, hp, hb', rfl⟩, ?_⟩
  cases eg : dtGet kvs ks with
  | none =>
    rw [g.2 eg]
    rw [eg] at q5
    exact q5 _ H3 a13 r3
  | some d =>
    obtain ⟨w, ew, rw'⟩ := g.1 d eg
    rw [ew]
    rw [eg] at q5
    exact q5 _ H3 a13 rw'
end DL
/-! DL27: try .. except X: .., where the body raises nothing. -/
namespace DL
open PySem PySem.Spec PyProof.Rows L2
def tsTryN (t : TSD) : TSD := fun D Γ => t { D with xt := fun _ _ => False } Γ
theorem pd_tryN {X : Cx} {x : Str} {body suite : List Stmt} {b0 : Stmt} {np pos pos' : Pos} {t : TSD} (hs : X.stack = X.env :: X.outer) (hf : X.env.frame = some X.env.locals) (hm : ∃ C : Addr, X.mg x = some (.ref C)) (hb : ∀ (pn : List (Addr × Obj)) (xe : Value → Shared → Prop), PDSs (X.tr pn xe) body t)
    (hg : Gl X x := by rfl) (hd : (x == ("__debug__" : Str)) = false := by decide) : PDS X (.Try body [.ExceptHandler (some (.Name x np)) none (b0 :: suite) pos'] [] [] pos) (tsTryN t) := by
  obtain ⟨C, hm⟩ := hm
  refine ⟨fun W tk => PS.imp (ps_try_only (Wout := W) (tb := fun W' => liftS X.K W' t) (ts := fun _ _ _ _ _ _ => False) hs hf ⟨hg, hd, .inl hm⟩ tk (fun W' pn xe tk' _ => (hb pn xe).run W' tk') (fun a oe cls d pn _ _ => pss_never)) fun D σ H ⟨Γ, g, q⟩ => ⟨Γ, g, (hb [] X.xe).mono _ _ _ ?_ q⟩, fun D D' Γ le q => (hb [] X.xe).mono _ _ _ ?_ q⟩
  · exact ⟨fun _ z => z, fun _ _ z => z, fun _ z => z, fun _ z => z, fun _ _ z => False.elim z⟩
  · exact ⟨le.nx, le.rt, le.bk, le.ct, fun _ _ z => z⟩
end DL
/-! DL28: a dict of one's own made data; data dicts walked. -/
namespace DL
open PySem PySem.Spec PyProof.Rows L2
theorem Inv.lock2 {X : Cx} {pins : List (Addr × Obj)} {σ : Sl} {H : Hp} {s : Shared} {d : Addr} {kvs : List (List Key × V)} (I : Inv X pins σ H s) (h : H d = some (.dT kvs)) : ∃ od, Inv X pins σ (upd H d (.frz od (.frz od (.dT kvs)))) s := by
  have x := I.hok d _ h
  obtain ⟨od, e⟩ : ∃ od, s.heap.get? d = some od := by
    obtain ⟨_, _, _, _, o, _, _, e, _⟩ := id x
    exact ⟨o, e⟩
  have ne : ∀ {c : Addr} {u : HO}, H c = some u → u ≠ .dT kvs → upd H d (.frz od (.frz od (.dT kvs))) c = some u := fun {c u} q n => by
    rw [upd_ne (fun z => by rw [z, h] at q; exact n (Option.some.inj q).symm)]
    exact q
  have new : ObjOk X.prog X.w (upd H d (.frz od (.frz od (.dT kvs)))) s.heap d (.frz od (.frz od (.dT kvs))) :=
    ⟨e, e, x.stay (fun _ _ _ q => q) (fun c q => ne q fun z => by cases z) fun c xs q => ne q fun z => by cases z⟩
  exact ⟨od, I.write (x := d) (e := d) (t' := s.toks) (h' := s.heap) (by rw [h]; trivial) (.inl rfl) (fun b v _ q => q) ⟨od, e⟩ new⟩
def tdFzT (t : TD) : TD := fun Γ Q => t Γ fun r Γ' => match r with
  | .fz d => Q (.fz d) Γ'
  | .ow _ (.dT kvs) => Q (.fz (dkD kvs)) Γ'
  | .bw i => (match Γ'[i]? with
    | some (.ow _ (.dT kvs)) => Q (.fz (dkD kvs)) (Γ'.set i (.fz (dkD kvs)))
    | _ => False)
  | _ => False
theorem pd_fzT {X : Cx} {e : Expr} {t : TD} (h : PD X e t) : PD X e (tdFzT t) := by
  refine ⟨⟨fun pins s σ H Q I ⟨Γ, g, q⟩ => ?_⟩, fun Γ Q Q' hq => h.mono _ _ _ fun r Γ' q => ?_⟩
  · refine thn (h.run.run pins s σ H (fun v H1 => ∃ r Γ1, Aft X.K H Γ H1 σ Γ1 ∧ Res X.K H σ Γ H1 Γ1 v r ∧ (match r with
      | .fz d => (fun r Γ' => ∀ v H', Aft X.K H Γ H' σ Γ' → Res X.K H σ Γ H' Γ' v r → Q v H') (.fz d) Γ1
      | .ow _ (.dT kvs) => (fun r Γ' => ∀ v H', Aft X.K H Γ H' σ Γ' → Res X.K H σ Γ H' Γ' v r → Q v H') (.fz (dkD kvs)) Γ1
      | .bw i => (match Γ1[i]? with
        | some (.ow p (.dT kvs)) => (fun r Γ' => ∀ v H', Aft X.K H Γ H' σ Γ' → Res X.K H σ Γ H' Γ' v r → Q v H') (.fz (dkD kvs)) (Γ1.set i (.fz (dkD kvs)))
        | _ => False)
      | _ => False)) I ⟨Γ, g, h.mono _ _ _ (fun r Γ' q v H' af rs => ⟨r, Γ', af, rs, q⟩) q⟩) fun u s1 ⟨v, H1, I1, rv, r, Γ1, af, rs, q⟩ => ?_
    split at q
    · exact ⟨v, H1, I1, rv, q _ H1 af rs⟩
    · rename_i p kvs
      obtain ⟨rfl, ⟨vs, e1, rp⟩, n, f⟩ := rs
      obtain ⟨od, I2⟩ := Inv.lock2 I1 e1
      have im : Imm H1 (upd H1 p (.frz od (.frz od (.dT vs)))) := imm_frz (by rw [e1]; trivial)
      have g1 : RG X.K (upd H1 p (.frz od (.frz od (.dT vs)))) σ Γ1 := by
        refine ⟨af.rg.len, fun j d z => ?_, fun j q o z => ?_, af.rg.raw, af.rg.one, af.rg.tbm im⟩
        · obtain ⟨w, z1, z2⟩ := af.rg.fz _ _ z
          exact ⟨w, z1, z2.imm im⟩
        · obtain ⟨z1, z2⟩ := af.rg.ow _ _ _ z
          exact ⟨z1, z2.keep (fun a ha u => keep_upd a u fun y => n p List.mem_cons_self (by rw [← y]; exact own_mk z ha)) im⟩
      have f := f p List.mem_cons_self
      refine ⟨.ref p, _, I2, rv, q _ _ ⟨fun a u z1 z2 => ?_, g1, af.sh, af.im.trans im⟩ ⟨p, od, vs, rfl, upd_same, of_prep (rp.imm im)⟩⟩
      have ne : a ≠ p := fun y => by
        subst y
        rcases f with f | f
        · exact z2 f
        · rw [f] at z1; cases z1
      rw [upd_ne ne]
      intro _
      exact af.keep _ _ z1 z2
    · rename_i i
      split at q
      · rename_i p kvs e1
        obtain ⟨w1, vs, w2, rp⟩ := af.rg.ow _ _ _ e1
        have ev : v = .ref p := by
          have z := (show σ[i]? = some (some v) from rs).symm.trans w1
          cases z; rfl
        subst ev
        obtain ⟨od, I2⟩ := Inv.lock2 I1 w2
        have im : Imm H1 (upd H1 p (.frz od (.frz od (.dT vs)))) := imm_frz (by rw [w2]; trivial)
        have rl : Rep X.K (upd H1 p (.frz od (.frz od (.dT vs)))) (dkD kvs) (.ref p) := ⟨p, od, vs, rfl, upd_same, of_prep (rp.imm im)⟩
        obtain ⟨g1, n1⟩ := rg_drop af.rg (sv := .fz (dkD kvs)) e1 im keep_upd (fun _ _ z => by cases z) (fun d z => by cases z; exact rl) (fun _ z => by cases z)
        refine ⟨.ref p, _, I2, rv, q _ _ ⟨fun a u z1 z2 => ?_, g1, fun a z => af.sh a (n1 a z).1, af.im.trans im⟩ rl⟩
        have ne : a ≠ p := fun y => by
          subst y
          rcases af.sh a (own_p e1) with f | f
          · exact z2 f
          · rw [f] at z1; cases z1
        rw [upd_ne ne]
        intro _
        exact af.keep _ _ z1 z2
      · exact q.elim
    · exact q.elim
  · split at q <;> first | exact hq _ _ q | (split at q <;> first | exact hq _ _ q | exact q) | exact q
/-! ### for k in d, d data -/
theorem Inv.frz2T {X : Cx} {pins : List (Addr × Obj)} {σ : Sl} {H : Hp} {s : Shared} {d : Addr} {o : Obj} {kvs : List (List Key × V)} (I : Inv X pins σ H s) (h : H d = some (.frz o (.frz o (.dT kvs)))) :
    (d == sysModules) = false ∧ s.heap.get? d = some o ∧ o.ExactDict ∧ ∃ (es : Array DictEntry) (ep : Nat), o.data = .dict es ep ∧ es.size = kvs.length ∧
      ∀ (i : Nat) (k : List Key) (v : V), kvs[i]? = some (k, v) → ∃ (en : DictEntry) (q : Addr), es[i]? = some en ∧ en.key = .ref q ∧ H q = some (.tup (k.map kV)) := by
  obtain ⟨hd, _, z, hs, xs, pr, o', es, ep, ho, hx, hdt, he, _⟩ := I.hok d _ h
  rw [hd] at ho
  cases ho
  have l1 : es.size = xs.length := size_of_entries he
  have l2 : kvs.length = xs.length := Paired.length pr
  refine ⟨hs, hd, hx, es, ep, hdt, by omega, fun i k v e => ?_⟩
  obtain ⟨b, hb, e1, e2, e3⟩ := paired_get pr e
  have q := entry_at he i
  rw [hb] at q
  exact ⟨_, b.2.1, q, rfl, by rw [← e2]⟩
def Itk2 (d : Addr) (o : Obj) (kvs : List (List Key × V)) : It :=
  ⟨fun i H => H d = some (.frz o (.frz o (.dT kvs))) ∧ i < kvs.length, fun i H x H' => H' = H ∧ ∃ (k : List Key) (v : V) (q : Addr), kvs[i]? = some (k, v) ∧ x = .ref q ∧ H q = some (.tup (k.map kV)), fun i H => H d = some (.frz o (.frz o (.dT kvs))) ∧ kvs.length ≤ i⟩
theorem turn_keys2 {P : Program} {w : World} {K : PySem.W.Frag} {tg : Expr} {d : Addr} {o : Obj} {es : Array DictEntry} {ep : Nat} {kvs : List (List Key × V)} (it : Addr) (hod : o.data = .dict es ep) : Turn P w K tg (Itk2 d o kvs) [it] it (fun i h => h.IsKeyIter it d i kvs.length ep) where
  mem := by simp
  obj := fun i h st b hb => by
    obtain rfl : b = it := by simpa using hb
    obtain ⟨oi, e, c, dd⟩ := st
    exact ⟨oi, e, fun v z => by rw [dd] at z; cases z⟩
  keep := fun i h h' st k => st.at fun oi e => k it (by simp) oi e
  item := by
    intro X hP hw hK hc i pins s σ H E I hf st hg
    subst hP hw hK
    obtain ⟨hd, hi⟩ := hg
    obtain ⟨f0, f1, f2, f3, f4, f5⟩ := hf it (by simp)
    obtain ⟨hs, hgd, hx, es', ep', hdt, hsz, ent⟩ := Inv.frz2T I hd
    obtain ⟨rfl, rfl⟩ := dict_ep hod hdt
    obtain ⟨⟨k, v⟩, hkv⟩ : ∃ p, kvs[i]? = some p := ⟨kvs[i], List.getElem?_eq_getElem hi⟩
    obtain ⟨en, q, hen, hkey, hq⟩ := ent i k v hkv
    refine next_key_item st hgd hdt hsz hen fun h' st' sb => ?_
    have I1 : Inv X pins σ H { s with heap := h' } := I.turned (t' := s.toks) (fun b ob hb e => (sb.2 b hb).trans e) f0 f1 f3 f4 f5
    obtain ⟨oi, e, c, dd⟩ := id st'
    exact ⟨en.key, rfl, go_of (s := { s with heap := h' }) e c dd (by decide) ⟨.ref q, H, I1, hkey, ⟨rfl, k, v, q, hkv, rfl, hq⟩, st', fun b hb => (hf b hb).1⟩⟩
  done := by
    intro X hP hw hK hc i pins s σ H E I hf st hg
    subst hP hw hK
    obtain ⟨hd, hi⟩ := hg
    obtain ⟨f0, f1, f2, f3, f4, f5⟩ := hf it (by simp)
    obtain ⟨hs, hgd, hx, es', ep', hdt, hsz, ent⟩ := Inv.frz2T I hd
    obtain ⟨rfl, rfl⟩ := dict_ep hod hdt
    exact next_key_end (I.ok.hd hc) st hgd hdt hsz hi fun h' eb => ⟨rfl, I.turned (t' := s.toks) (fun b ob hb e => eb b ob hb e) f0 f1 f3 f4 f5⟩
  self := fun A i s Q E st h => by
    refine wpAny_pyIter_slot st.typeIs F.slot_dict_keyiterator_iter (wpAny_call_entry F.slot_dict_keyiterator_iter st.typeIs F.entry_dict_keyiterator_iter ?_ (F.args_dict_keyiterator_iter_1 _))
    show wpAny _ _ (ret (.ref it)) _ _ s
    exact wpAny_pure ⟨_, rfl, "dict_keyiterator", _, st.typeIs, F.slot_dict_keyiterator_next.lookup, h⟩
def iKeys2 (td : TE) : TI := fun σ H R => td σ H fun x H1 => ∃ d o kvs, x = .ref d ∧ H1 d = some (.frz o (.frz o (.dT kvs))) ∧ R (Itk2 d o kvs) H1
theorem pi_keys2 {X : Cx} {tg e : Expr} {td : TE} (he : PE X e td) : PI X tg e (iKeys2 td) := by
  refine ⟨fun pins s σ H R I h => ?_⟩
  refine thn (he.run pins s σ H _ I h) fun u s1 ⟨x, H1, I1, rx, d, o, kvs, ex, hd, q⟩ => ?_
  subst ex
  cases rx
  obtain ⟨hs, hgd, hx, es, ep, hdt, hsz, ent⟩ := Inv.frz2T I1 hd
  refine iter_keys hs hgd hx hdt (pi_one (tk := s1.toks) I1 _ (turn_keys2 _ hdt) ⟨_, Heap.get?_push_size _ rfl, rfl, ?_⟩ q)
  rw [hsz] <;> rfl
def tiKeysD (t : TD) : TID := fun Γ Q => t Γ fun r Γ1 => match r with
  | .fz (.dict ps) => ∃ kvs : List (List Int × D), ps = kvs.map (fun q => (tI q.1, q.2)) ∧ kvs.length ≤ sizeLine ∧ Q (kvs.map fun q => tI q.1) none Γ1
  | _ => False
theorem pid_keysD {X : Cx} {tg e : Expr} {te : TD} (he : PD X e te) : PID X tg e (tiKeysD te) := by
  refine ⟨PI.imp (pi_keys2 he.run) fun σ H R ⟨Γ, g, q⟩ => ⟨Γ, g, he.mono _ _ _ (fun r Γ1 q => ?_) q⟩, fun Γ Q Q' h => he.mono _ _ _ fun r Γ1 q => ?_⟩
  · intro v H1 a1 r1
    split at q
    · obtain ⟨kvs, rfl, hl, q⟩ := q
      obtain ⟨p, o, vs, rfl, w2, rd⟩ := (show Rep X.K H1 _ v from r1)
      have pr := prep_of rd
      refine ⟨p, o, vs, rfl, w2, ?_⟩
      refine q (Itk2 p o vs) H1 (fun H => H p = some (.frz o (.frz o (.dT vs)))) a1 ⟨fun i H h hi => ⟨h, ?_⟩, fun i d H x H' h e y => ?_, fun H h => ⟨h, ?_⟩, by rw [List.length_map]; exact hl⟩ fun H2 σ2 Γ2 im _ _ => im _ _ w2 (fun z => z)
      · rw [pr.len]; rw [List.length_map] at hi; exact hi
      · obtain ⟨rfl, k, u, b, e2, rfl, hb⟩ := y
        refine ⟨same_refl _, ?_⟩
        obtain ⟨q', e3, rfl⟩ := map_at e
        have e4 : (vs.map (·.1))[i]? = some k := by rw [List.getElem?_map, e2]; rfl
        rw [pr.keys, List.getElem?_map, e3] at e4
        cases e4
        rw [kT_kV] at hb
        exact ⟨b, _, rfl, hb, Reps.of_ints _⟩
      · rw [List.length_map, pr.len]
        exact Nat.le_refl _
    · exact q.elim
  · split at q
    · obtain ⟨kvs, e, hl, q⟩ := q
      exact ⟨kvs, e, hl, h _ _ _ q⟩
    · exact q
end DL
/-! DL29: dicts of one's own whose keys are ints. -/
namespace DL
open PySem PySem.Spec PyProof.Rows L2
def diOf (Γ : G) : SV → (List (Int × D) → Prop) → Prop
  | .ow _ (.dI kvs), k => k kvs
  | .bw i, k => match Γ[i]? with
    | some (.ow _ (.dI kvs)) => k kvs
    | _ => False
  | _, _ => False
theorem diOf_mono {Γ : G} {r : SV} {k k' : List (Int × D) → Prop} (h : ∀ d, k d → k' d) (q : diOf Γ r k) : diOf Γ r k' := by
  unfold diOf at q ⊢
  split at q
  · exact h _ q
  · split at q <;> first | exact h _ q | exact q
  · exact q
theorem diOf_ok {K : PySem.W.Frag} {H H0 : Hp} {σ : Sl} {Γ Γ0 : G} {r : SV} {v : V} {k : List (Int × D) → Prop} (g : RG K H σ Γ) (q : Res K H0 σ Γ0 H Γ v r) (h : diOf Γ r k) : ∃ a kvs vs, v = .ref a ∧ H a = some (.dK vs) ∧ PRep K H kI kvs vs ∧ k kvs := by
  unfold diOf at h
  split at h
  · obtain ⟨rfl, ⟨vs, e, rs⟩, _, _⟩ := q
    exact ⟨_, _, vs, rfl, e, rs, h⟩
  · split at h
    · rename_i e
      obtain ⟨e1, vs, e2, rs⟩ := g.ow _ _ _ e
      have e3 := (show σ[_]? = some (some v) from q).symm.trans e1
      cases e3
      exact ⟨_, _, vs, rfl, e2, rs, h⟩
    · exact h.elim
  · exact h.elim
section
variable {X : Cx} {a b e value : Expr} {ta tb tk te : TD} {pos : Pos}
def tdDGetI (tb tk : TD) : TD := fun Γ Q => tb Γ fun x Γ1 => tk Γ1 fun y Γ2 => diOf Γ2 x fun kvs => dat Γ2 y fun kd => ∃ (i : Int) (v : D), kd = .int i ∧ dtGet kvs i = some v ∧ Q (.fz v) Γ2
theorem pd_dgetI (hu : X.A.units + 64 < cLine) (ha : PD X a ta) (hb : PD X b tb) (hs : NoSl b := by intro _ _; rfl) : PD X (.Subscript a b pos) (tdDGetI ta tb) := by
  refine ⟨PE.imp (pe_dget (by omega) ha.run hb.run hs) fun σ H Q ⟨Γ, g0, q⟩ => ⟨Γ, g0, ha.mono _ _ _ (fun x Γ1 q1 => ?_) q⟩, fun Γ Q Q' h => ha.mono _ _ _ fun x Γ1 => hb.mono _ _ _ fun y Γ2 => diOf_mono fun kvs => dat_mono fun kd ⟨ks, v, e1, e2, q⟩ => ⟨ks, v, e1, e2, h _ _ q⟩⟩
  intro v H1 a1 r1
  refine ⟨Γ1, a1.rg, hb.mono _ _ _ (fun y Γ2 q2 => ?_) q1⟩
  intro u H2 a2 r2
  have a12 := a1.trans g0 a2
  obtain ⟨p, kvs, vs, rfl, hp, pr, q2⟩ := diOf_ok a2.rg (r1.later g0 a1.rg a2) q2
  obtain ⟨kd, nk, i, w, rfl, eg, q2⟩ := dat_ok a2.rg r2 q2
  obtain rfl := nk.int
  obtain ⟨w', ew, rw'⟩ := (pr.get (fun _ _ => kI_inj) i).1 w eg
  exact ⟨p, w', rfl, by rw [← ew]; exact DGet.k (k := kI i) hp, q2 w' H2 a12 rw'⟩
def tdDInI (f : Bool → Bool) (tk tb : TD) : TD := fun Γ Q => tk Γ fun y Γ1 => tb Γ1 fun x Γ2 => diOf Γ2 x fun kvs => dat Γ2 y fun kd => ∃ i : Int, kd = .int i ∧ Q (.fz (.bool (f (dtGet kvs i).isSome))) Γ2
theorem tdDInI_mono {f : Bool → Bool} (ma : Mono ta) (mb : Mono tb) : Mono (tdDInI f ta tb) := fun Γ Q Q' h => ma _ _ _ fun x Γ1 => mb _ _ _ fun y Γ2 => diOf_mono fun kvs => dat_mono fun kd ⟨ks, e1, q⟩ => ⟨ks, e1, h _ _ q⟩
theorem tdDInI_ok {f : Bool → Bool} (ma : Mono ta) (mb : Mono tb) {σ : Sl} {H : Hp} {Q : VK} (q : lift X.K (tdDInI f ta tb) σ H Q) : lift X.K ta σ H fun y H1 => lift X.K tb σ H1 fun x H2 => ∃ a o, x = .ref a ∧ DGet H2 a y o ∧ Q (.bl (f o.isSome)) H2 := by
  obtain ⟨Γ, g0, q⟩ := q
  refine ⟨Γ, g0, ma _ _ _ (fun y Γ1 q1 => ?_) q⟩
  intro u H1 a1 r1
  refine ⟨Γ1, a1.rg, mb _ _ _ (fun x Γ2 q2 => ?_) q1⟩
  intro v H2 a2 r2
  have a12 := a1.trans g0 a2
  obtain ⟨p, kvs, vs, rfl, hp, pr, q2⟩ := diOf_ok a2.rg r2 q2
  obtain ⟨kd, nk, i, rfl, q2⟩ := dat_ok a2.rg (r1.later g0 a1.rg a2) q2
  obtain rfl := nk.int
  refine ⟨p, valV vs (kI i), rfl, DGet.k (k := kI i) hp, ?_⟩
  rw [pr.isSome (fun _ _ => kI_inj)]
  exact q2 _ H2 a12 rfl
theorem pd_dinI (hu : X.A.units + 64 < cLine) (ha : PD X a ta) (hb : PD X b tb) (hm : behindInMarks .In b = false := by first | rfl | exact nomark _) : PD X (.Compare a [.In] [b] pos) (tdDInI (fun b => b) ta tb) :=
  ⟨PE.imp (pe_cmp (pc_din (by omega) ha.run hb.run) hm) fun σ H Q q => tdDInI_ok ha.mono hb.mono q, tdDInI_mono ha.mono hb.mono⟩
theorem pd_dninI (hu : X.A.units + 64 < cLine) (ha : PD X a ta) (hb : PD X b tb) (hm : behindInMarks .NotIn b = false := by first | rfl | exact nomark _) : PD X (.Compare a [.NotIn] [b] pos) (tdDInI (fun b => !b) ta tb) :=
  ⟨PE.imp (pe_cmp (pc_dnotin (by omega) ha.run hb.run) hm) fun σ H Q q => tdDInI_ok ha.mono hb.mono q, tdDInI_mono ha.mono hb.mono⟩
theorem pb_dinI (hu : X.A.units + 64 < cLine) (ha : PD X a ta) (hb : PD X b tb) (hm : behindInMarks .In b = false := by first | rfl | exact nomark _) : PB X (.Compare a [.In] [b] pos) (tdB (tdDInI (fun b => b) ta tb)) :=
  ⟨PT.imp (pt_cmp (pc_din (by omega) ha.run hb.run) hm) fun σ H Q q => tTest_imp (fun _ _ _ => tdDInI_ok ha.mono hb.mono) (tdB_ok (tdDInI_mono ha.mono hb.mono) q), tdB_mono (tdDInI_mono ha.mono hb.mono)⟩
theorem pb_dninI (hu : X.A.units + 64 < cLine) (ha : PD X a ta) (hb : PD X b tb) (hm : behindInMarks .NotIn b = false := by first | rfl | exact nomark _) : PB X (.Compare a [.NotIn] [b] pos) (tdB (tdDInI (fun b => !b) ta tb)) :=
  ⟨PT.imp (pt_cmp (pc_dnotin (by omega) ha.run hb.run) hm) fun σ H Q q => tTest_imp (fun _ _ _ => tdDInI_ok ha.mono hb.mono) (tdB_ok (tdDInI_mono ha.mono hb.mono) q), tdB_mono (tdDInI_mono ha.mono hb.mono)⟩
/-- d[k] = v, d the name of slot j -/
def tsPutI (j : Nat) (te tk : TD) : TSD := fun E Γ => te Γ fun r Γ1 => match r, Γ1[j]? with
  | .fz d, some (.ow _ _) => tk Γ1 fun r2 Γ2 => dat Γ2 r2 fun kd => (match Γ2[j]? with
    | some (.ow p (.dI kvs)) => kvs.length < sizeLine ∧ ∃ i : Int, kd = .int i ∧ E.nx (Γ2.set j (.ow p (.dI (dtPut kvs i d))))
    | _ => False)
  | _, _ => False
variable {x : Str} {p spos tpos : Pos} {idx : Expr} {ti : TD}
theorem pd_putI (j : Nat) (hu : X.A.units + 64 < cLine) (ho : PE X (.Name x p) (tVar j)) (hi : PD X idx ti) (hv : PD X value te)
    (hs : swapsWith value (some (.Subscript (.Name x p) idx tpos)) spos.line X.env = pure false := by rfl) :
    PDS X (.Assign [.Subscript (.Name x p) idx tpos] value spos) (tsPutI j te ti) := by
  refine ⟨fun W tk => PS.imp (ps_dput (by omega) ho hi.run hv.run hs) fun D σ H ⟨Γ, g0, q⟩ => ⟨Γ, g0, hv.mono _ _ _ (fun r Γ1 q v H1 a1 r1 => ?_) q⟩, fun D D' Γ h => hv.mono _ _ _ fun r Γ1 q => ?_⟩
  · split at q
    · rename_i d p1 o1 e1
      obtain ⟨z1, _⟩ := a1.rg.ow _ _ _ e1
      refine ⟨_, z1, Γ1, a1.rg, hi.mono _ _ _ (fun r2 Γ2 q u H2 a2 r2' => ?_) q⟩
      have a12 := a1.trans g0 a2
      have rd : Rep X.K H2 d v := Rep.imm r1 (a2.imm a1.rg)
      obtain ⟨kd, nk, q⟩ := dat_ok a2.rg r2' q
      split at q
      · rename_i p2 kvs e2
        obtain ⟨w1, vs, w2, pr⟩ := a2.rg.ow _ _ _ e2
        rw [z1] at w1
        cases w1
        obtain ⟨hl, i, rfl, q⟩ := q
        obtain rfl := nk.int
        have im : Imm H2 (upd H2 p1 (.dK (putK vs (kI i) v))) := Imm.upd (.inr (by rw [w2]; trivial))
        exact ⟨p1, _, rfl, DPut.k (k := kI i) w2 (by rw [pr.len]; exact hl), q σ _ (aft_upd g0 a12 e2 upd_k im ⟨_, upd_same, (pr.put (fun _ _ => kI_inj) rd).imm im⟩)⟩
      · exact q.elim
    · exact q.elim
  · split at q
    · refine hi.mono _ _ _ (fun r2 Γ2 => dat_mono fun k q => ?_) q
      split at q
      · obtain ⟨hl, ks, e, q⟩ := q
        exact ⟨hl, ks, e, h.nx _ q⟩
      · exact q
    · exact q
end
/-! ### d.get(k, x) -/
def tdGet2I (td tk tx : TD) : TD := fun Γ Q => td Γ fun x Γ1 => diOf Γ1 x fun _ => tk Γ1 fun y Γ2 => tx Γ2 fun z Γ3 => diOf Γ3 x fun kvs => dat Γ3 y fun kd => ∃ (i : Int) (dz : D), kd = .int i ∧ z = .fz dz ∧ Q (.fz ((dtGet kvs i).getD dz)) Γ3
theorem pd_get2I {X : Cx} {o e f : Expr} {apos cpos : Pos} {td tk tx : TD} (hu : X.A.units + 64 < cLine) (ho : PD X o td) (he : PD X e tk) (hf : PD X f tx) (hbase : attributeBase o "get" X.env (eval o X.env) = eval o X.env := by rfl)
    (hfew : ((backTo cpos (starEach [e, f] X.env)).all (fun x => !x.1) && (backToKw cpos (keywordEach [] X.env)).all (fun x => x.1.isSome) && decide (([e, f] : List Expr).length + ([] : List Keyword).length + (if ([] : List Keyword).isEmpty then 0 else 1) < 30)) = true := by rfl)
    (hline : (apos.endLine == cpos.line) = true := by rfl) (htrees : backTo cpos (starEach [e, f] X.env) = [(false, eval e X.env), (false, eval f X.env)] := by rfl) :
    PD X (.Call (.Attribute o "get" apos) [e, f] [] cpos) (tdGet2I td tk tx) := by
  refine ⟨PE.imp (pe_dget2 (by omega) ho.run he.run hf.run ⟨hbase, hfew, hline, htrees⟩) fun σ H Q ⟨Γ, g0, q⟩ => ⟨Γ, g0, ho.mono _ _ _ (fun x Γ1 q1 v H1 a1 r1 => ?_) q⟩,
    fun Γ Q Q' h => ho.mono _ _ _ fun x Γ1 => diOf_mono fun _ => he.mono _ _ _ fun y Γ2 => hf.mono _ _ _ fun z Γ3 => diOf_mono fun kvs => dat_mono fun kd ⟨ks, dz, e1, e2, q⟩ => ⟨ks, dz, e1, e2, h _ _ q⟩⟩
  obtain ⟨p, kvs0, vs0, rfl, hp0, pr0, q1⟩ := diOf_ok a1.rg r1 q1
  refine ⟨p, rfl, .inl ⟨vs0, .of hp0⟩, Γ1, a1.rg, he.mono _ _ _ (fun y Γ2 q2 u H2 a2 r2 => ?_) q1⟩
  refine ⟨Γ2, a2.rg, hf.mono _ _ _ (fun z Γ3 q3 v3 H3 a3 r3 => ?_) q2⟩
  have a12 := a1.trans g0 a2
  have a13 := a12.trans g0 a3
  have a23 := a2.trans a1.rg a3
  obtain ⟨p', kvs, vs, ep, hp, pr, q3⟩ := diOf_ok a3.rg (r1.later g0 a1.rg a23) q3
  cases ep
  obtain ⟨kd, nk, i, dz, rfl, rfl, q5⟩ := dat_ok a3.rg (r2.later a1.rg a2.rg a3) q3
  obtain rfl := nk.int
  have g := pr.get (fun _ _ => kI_inj) i
  refine ⟨valV vs (kI i), DGet.k (k := kI i) hp, ?_⟩
  cases eg : dtGet kvs i with
  | none =>
    rw [g.2 eg]
    rw [eg] at q5
    exact q5 _ H3 a13 r3
  | some d =>
    obtain ⟨w, ew, rw'⟩ := g.1 d eg
    rw [ew]
    rw [eg] at q5
    exact q5 _ H3 a13 rw'
end DL
/-! DL30: exceptions over data: raise, calls that may raise, try .. except X. -/
namespace DL
open PySem PySem.Spec PyProof.Rows L2

/-! ### what a call may let out -/
abbrev TXD := G → (SV → G → Prop) → (XD → G → Prop) → Prop
def liftE (K : PySem.W.Frag) (W : WX) (t : TXD) : TE := fun σ H Q => ∃ Γ, RG K H σ Γ ∧ t Γ (fun r Γ' => ∀ v H', Aft K H Γ H' σ Γ' → Res K H σ Γ H' Γ' v r → Q v H') (fun x Γ' => ∀ c d H', Aft K H Γ H' σ Γ' → XOk K H' x c d → W c d σ H')
def MonoX (t : TXD) : Prop := ∀ Γ Q Q' (E E' : XD → G → Prop), (∀ r Γ', Q r Γ' → Q' r Γ') → (∀ x Γ', E x Γ' → E' x Γ') → t Γ Q E → t Γ Q' E'
structure PDX (X : Cx) (e : Expr) (t : TXD) : Prop where
  run : ∀ W, Takes X W → PE X e (liftE X.K W t)
  mono : MonoX t
/-- what raises nothing -/
theorem pdx_pd {X : Cx} {e : Expr} {t : TD} (h : PD X e t) : PDX X e (fun Γ Q _ => t Γ Q) := ⟨fun W tk => h.run, fun Γ Q Q' E E' hq _ => h.mono _ _ _ hq⟩
def tdCallX (sp : SpD) (t : TAD) : TXD := fun Γ Q E => t Γ fun rs Γ1 => bwOk rs = true ∧ sp (rs.map (argOf Γ1)) (fun r Γa => isBw r = false ∧ Q r (wback Γ1 rs Γa)) (fun x Γa => E x (wback Γ1 rs Γa))
theorem tdCallX_mono {sp : SpD} {t : TAD} (ms : MonoSp sp) (ma : MonoA t) : MonoX (tdCallX sp t) := fun Γ Q Q' E E' hq he => ma _ _ _ fun rs Γ1 q => ⟨q.1, ms _ _ _ _ _ (fun r Γa z => ⟨z.1, hq _ _ z.2⟩) (fun _ _ z => he _ _ z) q.2⟩
/-- as call_ok, with what may be let out -/
theorem callX_ok {X : Cx} {sp : SpD} (ms : MonoSp sp) {n : Nat} {EX : XK} {σ : Sl} {H : Hp} {Q : VK} {Γ Γ1 : G} {H1 : Hp} {rs : List SV} {vs : List V} (g : RG X.K H σ Γ) (a1 : Aft X.K H Γ H1 σ Γ1) (rr : Ress X.K H σ Γ H1 Γ1 rs vs) (hn : vs.length = n)
    (nd : bwOk rs = true) (q : sp (rs.map (argOf Γ1)) (fun r Γa => isBw r = false ∧ ∀ v H', Aft X.K H Γ H' σ (wback Γ1 rs Γa) → Res X.K H σ Γ H' (wback Γ1 rs Γa) v r → Q v H')
      (fun x Γa => ∀ c d H', Aft X.K H Γ H' σ (wback Γ1 rs Γa) → XOk X.K H' x c d → EX c d H')) : liftSp X.K n sp vs H1 Q EX := by
  have nd : (rs.filterMap bwIx).Nodup := of_decide_eq_true nd
  refine ⟨hn, rs.map (argOf Γ1), rg_args a1.rg rr nd, ?_⟩
  refine ms _ _ _ _ _ (fun r Γa ⟨nb, q⟩ => ?_) (fun x Γa q => ?_) q
  · intro c d H2 a2 xo
    obtain ⟨a3, _⟩ := rg_wback a1.rg rr nd a2
    exact q c d H2 (a1.trans g a3) xo
  · intro v H2 a2 r2
    obtain ⟨a3, ow3⟩ := rg_wback a1.rg rr nd a2
    have sub : ∀ {p}, own (rs.map (argOf Γ1)) p → own Γ1 p := fun h => let ⟨i, j, q, o, h1, h2, h3⟩ := own_args h; own_mk h2 h3
    refine q v H2 (a1.trans g a3) ?_
    cases r with
    | no => trivial
    | fz d => exact r2
    | raw u => exact r2
    | bw i => cases nb
    | ow p o =>
      obtain ⟨e, w, n, fr⟩ := r2
      refine ⟨e, w, fun c hc z => ?_, fun c hc => a1.fresh ((fr c hc).imp (fun z => sub z) id)⟩
      rcases ow3 c z with ⟨z1, z2⟩ | z
      · rcases fr c hc with fr | fr
        · exact z2 fr
        · exact a1.rg.there z1 fr
      · exact n c hc z
/-- a def that may raise -/
structure DefX (P : Program) (w : World) (K : PySem.W.Frag) (mg : Str → Option Value) (base : Heap) (k : Nat) (x : Str) (ps : List Str) (n : Nat) (sp : SpD) : Prop where
  ok : ∃ f fd, FnOk P w K mg base (L2.CX P w) k f fd ps (liftSp K n sp) ∧ mg x = some (.ref f) ∧ PySem.W.keepIn K (.ref f) = true ∧ L2.Binds K fd ps []
  ms : MonoSp sp
theorem pdx_def {X : Cx} {k n j : Nat} {ps : List Str} {sp : SpD} {x : Str} {p pos : Pos} {e : Expr} {es : List Expr} {t : TAD} (F : DefX X.prog X.w X.K X.mg X.base k x ps n sp) (hr : Room j X.A) (ha : PAD X (e :: es) t) (hj : k ≤ j := by first | decide | omega) (hg : Gl X x := by rfl) (hn : (e :: es).length = n := by rfl)
    (hdb : (x == ("__debug__" : Str)) = false := by decide) (he : starEach (e :: es) X.env = (false, eval e X.env) :: starEach es X.env := by rfl) (hpl : (backTo pos (starEach es X.env)).any (·.1) = false := by rfl) : PDX X (.Call (.Name x p) (e :: es) [] pos) (tdCallX sp t) := by
  obtain ⟨f, fd, h1, h2, h3, h4⟩ := F.ok
  refine ⟨fun W tk => PE.imp (pe_callS (E := WE W) h1 (hr.mono hj) hg h2 h3 h4 (fun σ => passAt tk σ) ha.run hdb he hpl) fun σ H Q ⟨Γ, g, q⟩ => ⟨Γ, g, ha.mono _ _ _ (fun rs Γ1 q => ?_) (ha.len _ _ q)⟩, tdCallX_mono F.ms ha.mono⟩
  intro vs H1 a1 rr
  exact callX_ok F.ms g a1 rr (by rw [rr.len, q.1]; exact hn) q.2.1 q.2.2

/-! ### statements -/
section
variable {X : Cx} {e : Expr} {te : TXD} {pos : Pos}
def tsDropX (te : TXD) : TSD := fun D Γ => te Γ (fun _ Γ' => D.nx Γ') D.xt
theorem pd_exprX (he : PDX X e te) (hs : swapsWith e none pos.line X.env = pure false := by rfl) : PDS X (.Expr e pos) (tsDropX te) :=
  ⟨fun W tk => PS.imp (ps_expr (he.run W tk) hs) fun D σ H ⟨Γ, g, q⟩ => ⟨Γ, g, he.mono _ _ _ _ _ (fun r Γ' q v H' a rs => q σ H' a) (fun x Γ' q c d H' a xo => q c d σ H' a xo) q⟩, fun D D' Γ h => he.mono _ _ _ _ _ (fun r Γ' => h.nx _) fun x Γ' => h.xt _ _⟩
def tsRetX (te : TXD) : TSD := fun D Γ => te Γ (fun r Γ' => match r with
  | .bw i => (match Γ'[i]? with
    | some (.ow p o) => D.rt (.ow p o) (Γ'.set i .no)
    | _ => False)
  | r => D.rt r Γ') D.xt
theorem pd_retX (he : PDX X e te) : PDS X (.Return (some e) pos) (tsRetX te) := by
  refine ⟨fun W tk => PS.imp (ps_ret (he.run W tk)) fun D σ H ⟨Γ, g, q⟩ => ⟨Γ, g, he.mono _ _ _ _ _ (fun r Γ' q v H' a rs => ?_) (fun x Γ' q c d H' a xo => q c d σ H' a xo) q⟩, fun D D' Γ h => he.mono _ _ _ _ _ (fun r Γ' q => ?_) fun x Γ' => h.xt _ _⟩
  · split at q
    · split at q
      · rename_i p o e
        obtain ⟨z1, z2⟩ := a.rg.ow _ _ _ e
        have ev := (show σ[(_ : Nat)]? = some (some v) from rs).symm.trans z1
        cases ev
        obtain ⟨g1, n1⟩ := rg_drop a.rg (sv := .no) e (Imm.refl H') (fun _ _ _ z => z) (fun _ _ z => by cases z) (fun _ z => by cases z) (fun _ z => by cases z)
        exact q _ σ H' ⟨a.keep, g1, fun c z => a.sh c (n1 c z).1, a.im⟩ ⟨rfl, z2, fun c hc z => (n1 _ z).2 hc, fun c hc => a.sh c (own_mk e hc)⟩
      · exact q.elim
    · exact q v σ H' a rs
  · split at q
    · split at q
      · exact h.rt _ _ q
      · exact q
    · exact h.rt _ _ q
/-- x = e -/
def tsSetX (i : Nat) (te : TXD) : TSD := fun D Γ => te Γ (fun r Γ' => isBw r = false ∧ D.nx (Γ'.set i r)) D.xt
theorem pd_setX (i : Nat) {x : Str} {np : Pos} (he : PDX X e te) (hN : X.N.Nodup) (hi : X.N[i]? = some x := by rfl) (hx : Loc X.env.scope x := by first | exact Or.inl rfl | exact Or.inr rfl) (hs : swapsWith e (some (.Name x np)) pos.line X.env = pure false := by rfl)
    (hf : X.fn x = true ∨ X.env.scope.names.lookup x = some .local := by first | exact .inl rfl | exact .inr rfl) : PDS X (.Assign [.Name x np] e pos) (tsSetX i te) := by
  refine ⟨fun W tk => PS.imp (ps_set hN hi hx (he.run W tk) hs hf) fun D σ H ⟨Γ, g, q⟩ => ⟨Γ, g, he.mono _ _ _ _ _ (fun r Γ' q v H' a rs => ?_) (fun x Γ' q c d H' a xo => q c d σ H' a xo) q⟩, fun D D' Γ h => he.mono _ _ _ _ _ (fun r Γ' q => ⟨q.1, h.nx _ q.2⟩) fun x Γ' => h.xt _ _⟩
  exact q.2 _ H' (aft_set a rs q.1)
end

/-! ### raise -/
abbrev TMD := G → (XD → G → Prop) → Prop
def liftM (K : PySem.W.Frag) (t : TMD) : L2.St → Hp → XK → Prop := fun σ H Q => ∃ Γ, RG K H σ Γ ∧ t Γ fun x Γ' => ∀ c d H', Aft K H Γ H' σ Γ' → XOk K H' x c d → Q c d H'
structure PDM (X : Cx) (e : Expr) (t : TMD) : Prop where
  run : PMk X e (liftM X.K t)
  mono : ∀ Γ (Q Q' : XD → G → Prop), (∀ x Γ', Q x Γ' → Q' x Γ') → t Γ Q → t Γ Q'
def tsRaise (t : TMD) : TSD := fun D Γ => t Γ D.xt
theorem pd_raise {X : Cx} {e : Expr} {t : TMD} {pos : Pos} (hc : X.calm = true) (h : PDM X e t) : PDS X (.Raise (some e) none pos) (tsRaise t) :=
  ⟨fun W tk => PS.imp (ps_raise hc tk h.run) fun D σ H ⟨Γ, g, q⟩ => ⟨Γ, g, h.mono _ _ _ (fun x Γ' q c d H' a xo => q c d σ H' a xo) q⟩, fun D D' Γ le q => h.mono _ _ _ (fun x Γ' => le.xt _ _) q⟩
/-- a class of exceptions without an __init__ of its own -/
structure ExcT (K : PySem.W.Frag) (mg : Str → Option Value) (x : Str) : Prop where
  out : ∃ (C : Addr) (bmB : List Value) (B newId initId : String), ExcBaseFacts B newId initId bmB ∧ PySem.W.excIn K C bmB newId = true ∧ mg x = some (.ref C) ∧ PySem.W.nsIn K mainGlobals x = some (some (.ref C)) ∧ PySem.W.keepIn K (.ref C) = true ∧
    PySem.W.subIn K (.ref C) (.type "BaseException") = some true ∧ PySem.W.typeIn K (.ref C) = some (.type "type")
theorem pdm_own {X : Cx} {x m : Str} {j : Nat} {p p2 pos : Pos} (T : ExcT X.K X.mg x) (hg : Gl X x := by rfl) (hdb : (x == ("__debug__" : Str)) = false := by decide) : PDM X (.Call (.Name x p) [.Constant (.str m) j p2] [] pos) (fun Γ Q => Q ⟨x, []⟩ Γ) := by
  obtain ⟨C, bmB, B, newId, initId, F, q, gC, nC, kC, h1, h2⟩ := T.out
  refine ⟨fun pins s σ H Q I ⟨Γ, g, z⟩ => ?_, fun Γ Q Q' h q => h _ _ q⟩
  exact pmk_own F q gC kC (raises_own h1 h2) hg hdb pins s σ H Q I (z _ _ H (Aft.refl g) ⟨nC, .inl ⟨rfl, rfl⟩⟩)
end DL
/-! DL31: try .. except X; exception classes with an __init__ of their own. -/
namespace DL
open PySem PySem.Spec PyProof.Rows L2

/-! ### try -/
/-- whether an exception of the class n is one of the class x -/
def ExmS (K : PySem.W.Frag) (n x : Str) (b : Bool) : Prop := ∀ (c : Value) (C : Addr), PySem.W.nsIn K mainGlobals n = some (some c) → PySem.W.nsIn K mainGlobals x = some (some (.ref C)) → PySem.W.exmOne K c (.ref C) = some b
def tsTry (K : PySem.W.Frag) (x : Str) (t u : TSD) : TSD := fun D Γ => t { D with xt := fun e Γ' => ∃ b, ExmS K e.cls x b ∧ Br b (u { D with xt := fun _ _ => False } Γ') (D.xt e Γ') } Γ
theorem pd_tryX {X : Cx} {x : Str} {body suite : List Stmt} {b0 : Stmt} {np pos pos' : Pos} {t u : TSD} (hs : X.stack = X.env :: X.outer) (hf : X.env.frame = some X.env.locals) (hm : ∃ C : Addr, X.mg x = some (.ref C) ∧ PySem.W.nsIn X.K mainGlobals x = some (some (.ref C)))
    (hp : PassesOwn (model X.prog X.w) X.A X.env X.xe) (hb : ∀ (pn : List (Addr × Obj)) (xe : Value → Shared → Prop), PassesOwn (model X.prog X.w) X.A X.env xe → PDSs (X.tr pn xe) body t) (hu : ∀ (a : Addr) (pn : List (Addr × Obj)), PDSs (X.suite a pn) (b0 :: suite) u)
    (hg : Gl X x := by rfl) (hd : (x == ("__debug__" : Str)) = false := by decide) : PDS X (.Try body [.ExceptHandler (some (.Name x np)) none (b0 :: suite) pos'] [] [] pos) (tsTry X.K x t u) := by
  obtain ⟨C, hm, hn⟩ := hm
  have mu := (hu 0 []).mono
  have mt := (hb [] X.xe hp).mono
  refine ⟨fun W tk => PS.imp (ps_try_only (Wout := W) (tb := fun W' => liftS X.K W' t) (ts := fun a cls d => liftS X.K (fun _ _ _ _ => False) u) hs hf ⟨hg, hd, .inl hm⟩ tk (fun W' pn xe tk' pa => (hb pn xe pa).run W' tk') (fun a oe cls d pn _ _ => (hu a ((a, oe) :: pn)).run _ LamX.takes0)) fun D σ H ⟨Γ, g, q⟩ => ⟨Γ, g, mt _ _ _ ?_ q⟩, fun D D' Γ le q => mt _ _ _ ?_ q⟩
  · refine ⟨fun _ z => z, fun _ _ z => z, fun _ z => z, fun _ z => z, fun x Γ' ⟨b, hb, q⟩ c d σ' H' a xo => ⟨b, hb c C xo.1 hn, fun eb a0 _ => ?_, fun eb => ?_⟩⟩
    · subst eb
      have q := q.yes rfl
      refine ⟨Γ', a.rg, mu _ _ _ ?_ q⟩
      have le := liftD_le (W := fun _ _ _ _ => False) (D := D) g a
      exact ⟨le.nx, le.rt, le.bk, le.ct, fun _ _ z => False.elim z⟩
    · subst eb
      exact q.no rfl c d σ' H' a xo
  · refine ⟨le.nx, le.rt, le.bk, le.ct, fun x Γ' ⟨b, hb, q⟩ => ⟨b, hb, ?_⟩⟩
    rw [br_iff] at q ⊢
    split at q
    · rename_i e; rw [if_pos e]
      exact mu { D with xt := fun _ _ => False } { D' with xt := fun _ _ => False } _ ⟨le.nx, le.rt, le.bk, le.ct, fun _ _ z => False.elim z⟩ q
    · rename_i e; rw [if_neg e]
      exact le.xt _ _ q

/-! ### WishError.__init__(self, ..) -/
/-- what the class at W, over ValueError, gives of its __init__ -/
structure WInit (K : PySem.W.Frag) (W : Addr) : Prop where
  rd : PySem.W.readsIn K W (.type "type") = true
  ga : PySem.W.specialIn K (.ref W) "__getattribute__" = some (some (.builtin "type.__getattribute__"))
  at_ : PySem.W.findCls K (.ref W) (.type "type") "__init__" = some (.val (.builtin "ValueError.__init__"))
theorem pe_winit {X : Cx} {w0 : Str} {W : Addr} {e : Expr} {es : List Expr} {ta : TA} {p1 p2 pos : Pos} {pl : Sem Bool} (hg : Gl X w0) (hm : X.mg w0 = some (.ref W)) (r : WInit X.K W) (ha : PA X (e :: es) ta)
    (hc : eval (.Call (.Attribute (.Name w0 p1) "__init__" p2) (e :: es) [] pos) X.env = (do
      let ov ← eval (.Name w0 p1) X.env
      standAt p2.atName
      let (f, first) ← holding [ov] (getMethod ov "__init__" pl)
      callWith pos f first (backTo pos (starEach (e :: es) X.env)) (backToKw pos (keywordEach [] X.env))) := by rfl) (hdb : (w0 == ("__debug__" : Str)) = false := by decide)
    (he : starEach (e :: es) X.env = (false, eval e X.env) :: starEach es X.env := by rfl) (hpl : (backTo pos (starEach es X.env)).any (·.1) = false := by rfl) :
    PE X (.Call (.Attribute (.Name w0 p1) "__init__" p2) (e :: es) [] pos) (tVeI X.K ta) := by
  refine ⟨fun pins s σ H Q I h => ?_⟩
  refine PySem.W.methodCall_KW (ld_glob I hg hm ?_ hdb) hc
  refine PySem.W.method_cls I.kIn r.ga (PySem.W.cls_value I.kIn r.rd r.at_ (by decide +kernel) ?_)
  show wpAny _ _ (callWith pos (Value.builtin "ValueError.__init__") [] (backTo pos (starEach (e :: es) X.env)) []) _ _ _
  refine PyProof.Rows.callWith_method1 (thn (ha.run pos pins _ σ H _ (I.tok _) h) fun us s1 ⟨vs, H1, I1, r1, a, C, ws, ev, hl, T, ea, q⟩ => ?_) he hpl
  subst ev
  cases r1 with
  | @cons _ u0 _ ur ra rw' =>
    obtain rfl : u0 = Value.ref a := ra
    have hlen : ur.length ≤ sizeLine := by
      rw [← Paired.length rw', sizeLine_eq]
      omega
    exact oinit_ok T I1 ea hlen fun s' J => ⟨.non, H1, J, rfl, q⟩
/-- def __init__(self, v): WishError.__init__(self, v); self.f = v -/
def spI1 (K : PySem.W.Frag) (f : Str) : Sp := fun vs H Q _ => ∃ (a C : Addr) (v : V), vs = [.ref a, v] ∧ OexC K C ∧ PySem.W.findIn K (.ref C) f = some none ∧ H a = some (exo a C none) ∧
  ∀ dx, H dx = none → dx ≠ a → Q .non (upd (upd H dx (exd dx [(f, v)])) a (exo a C (some dx)))
/-- def __init__(self, v, u): WishError.__init__(self, v); self.f = v; self.g = u -/
def spI2 (K : PySem.W.Frag) (f g : Str) : Sp := fun vs H Q _ => ∃ (a C : Addr) (v u : V), vs = [.ref a, v, u] ∧ OexC K C ∧ PySem.W.findIn K (.ref C) f = some none ∧ PySem.W.findIn K (.ref C) g = some none ∧ H a = some (exo a C none) ∧
  ∀ dx, H dx = none → dx ≠ a → Q .non (upd (upd (upd H dx (exd dx [(f, v)])) a (exo a C (some dx))) dx (exd dx [(g, u), (f, v)]))
/-- an exception class with such an __init__, fs its fields, the last one first -/
structure ExcI (P : Program) (w : World) (K : PySem.W.Frag) (mg : Str → Option Value) (base : Heap) (x : Str) (ps : List Str) (sp : Sp) : Prop where
  out : ∃ (C fI : Addr) (fd : FuncData), OexC K C ∧ PySem.W.findIn K (.ref C) "__init__" = some (some (.ref fI)) ∧ PySem.W.typeIn K (.ref fI) = some (.type "function") ∧ FnOk P w K mg base CX0 1 fI fd ps sp ∧ L2.Binds K fd ps [] ∧ mg x = some (.ref C) ∧ PySem.W.nsIn K mainGlobals x = some (some (.ref C))
  no : ∀ C, PySem.W.nsIn K mainGlobals x = some (some (.ref C)) → ∀ f, f ∈ (["at", "why", "deed", "row"] : List Str) → PySem.W.findIn K (.ref C) f = some none
/-- what is made stands beside all that was there -/
theorem made_same {H : Hp} {a dx : Addr} {fs : List (Str × V)} {H2 : Hp} (ha : H a = none) (hd : H dx = none) (h2 : ∀ b, b ≠ a → b ≠ dx → H2 b = H b) : Same H (upd (del H2 a) dx (.xd fs)) := fun b o e => by
  have na : b ≠ a := fun z => by rw [z, ha] at e; cases e
  have nd : b ≠ dx := fun z => by rw [z, hd] at e; cases e
  rw [upd_ne nd, del_ne na, h2 b na nd]
  exact e
def tmI1 (x f : Str) (t : TAD) : TMD := fun Γ Q => t Γ fun rs Γ1 => match rs with
  | [.fz d] => Q ⟨x, [(f, d)]⟩ Γ1
  | _ => False
theorem pdm_init1 {X : Cx} {x f q : Str} {e : Expr} {es : List Expr} {t : TAD} {p pos : Pos} (T : ExcI X.prog X.w X.K X.mg X.base x ["self", q] (spI1 X.K f)) (hr : Room 2 X.A) (ha : PAD X (e :: es) t) (hf : f ∈ (["at", "why", "deed", "row"] : List Str) := by decide) (hg : Gl X x := by rfl)
    (hdb : (x == ("__debug__" : Str)) = false := by decide) (he : starEach (e :: es) X.env = (false, eval e X.env) :: starEach es X.env := by rfl) (hpl : (backTo pos (starEach es X.env)).any (·.1) = false := by rfl) : PDM X (.Call (.Name x p) (e :: es) [] pos) (tmI1 x f t) := by
  obtain ⟨C, fI, fd, o1, o2, o3, o4, o5, o6, o7⟩ := T.out
  refine ⟨fun pins s σ H Q I ⟨Γ, g, z⟩ => ?_, fun Γ Q Q' h => ha.mono _ _ _ fun r Γ' q => ?_⟩
  · refine pmk_oex (dvs := []) o1 o2 o3 o4 hr o5 .nil pass0 hg o6 ha.run hdb he hpl pins s σ H Q I ?_
    refine ⟨Γ, g, ha.mono _ _ _ (fun rs Γ1 q => ?_) z⟩
    intro vs H1 a1 rr
    split at q
    · rename_i d
      obtain ⟨v, w, rfl, r1, r2⟩ := rr
      cases (show w = [] from r2)
      refine ⟨by show 1 ≤ 1000; omega, fun a hn => ?_⟩
      refine ⟨a, C, v, rfl, o1, T.no C o7 f hf, upd_same, fun dx hx ne => ⟨rfl, dx, [(f, v)], upd_same, ?_, ?_, ?_⟩⟩
      · rw [upd_ne ne, upd_same]
      · rw [← hx, upd_ne ne]
      · have hd1 : H1 dx = none := by rw [← hx, upd_ne ne]
        have sm := made_same (H := H1) (a := a) (dx := dx) (fs := [(f, v)]) (H2 := upd (upd (upd H1 a (exo a C none)) dx (exd dx [(f, v)])) a (exo a C (some dx))) hn hd1 (fun b h1 h2 => by rw [upd_ne h1, upd_ne h2, upd_ne h1])
        exact q _ _ _ (a1.trans g (Aft.same a1.rg sm)) ⟨o7, .inr ⟨dx, [(f, v)], rfl, upd_same, ⟨v, [], rfl, Rep.imm r1 (imm_same sm), rfl⟩⟩⟩
    · exact q.elim
  · split at q
    · exact h _ _ q
    · exact q
def tmI2 (x f g : Str) (t : TAD) : TMD := fun Γ Q => t Γ fun rs Γ1 => match rs with
  | [.fz d, .fz d2] => Q ⟨x, [(g, d2), (f, d)]⟩ Γ1
  | _ => False
theorem pdm_init2 {X : Cx} {x f f2 q q2 : Str} {e : Expr} {es : List Expr} {t : TAD} {p pos : Pos} (T : ExcI X.prog X.w X.K X.mg X.base x ["self", q, q2] (spI2 X.K f f2)) (hr : Room 2 X.A) (ha : PAD X (e :: es) t) (hf : f ∈ (["at", "why", "deed", "row"] : List Str) := by decide) (hf2 : f2 ∈ (["at", "why", "deed", "row"] : List Str) := by decide) (hg : Gl X x := by rfl)
    (hdb : (x == ("__debug__" : Str)) = false := by decide) (he : starEach (e :: es) X.env = (false, eval e X.env) :: starEach es X.env := by rfl) (hpl : (backTo pos (starEach es X.env)).any (·.1) = false := by rfl) : PDM X (.Call (.Name x p) (e :: es) [] pos) (tmI2 x f f2 t) := by
  obtain ⟨C, fI, fd, o1, o2, o3, o4, o5, o6, o7⟩ := T.out
  refine ⟨fun pins s σ H Q I ⟨Γ, g, z⟩ => ?_, fun Γ Q Q' h => ha.mono _ _ _ fun r Γ' q => ?_⟩
  · refine pmk_oex (dvs := []) o1 o2 o3 o4 hr o5 .nil pass0 hg o6 ha.run hdb he hpl pins s σ H Q I ?_
    refine ⟨Γ, g, ha.mono _ _ _ (fun rs Γ1 q => ?_) z⟩
    intro vs H2 a12 rr
    split at q
    · rename_i d d2
      obtain ⟨v, w, rfl, rv, r2⟩ := rr
      obtain ⟨u, w2, rfl, ru, r3⟩ := r2
      cases (show w2 = [] from r3)
      refine ⟨by show 2 ≤ 1000; omega, fun a hn => ?_⟩
      refine ⟨a, C, v, u, rfl, o1, T.no C o7 f hf, T.no C o7 f2 hf2, upd_same, fun dx hx ne => ⟨rfl, dx, [(f2, u), (f, v)], ?_, upd_same, ?_, ?_⟩⟩
      · rw [upd_ne (Ne.symm ne), upd_same]
      · rw [← hx, upd_ne ne]
      · have hd1 : H2 dx = none := by rw [← hx, upd_ne ne]
        have sm := made_same (H := H2) (a := a) (dx := dx) (fs := [(f2, u), (f, v)]) (H2 := upd (upd (upd (upd H2 a (exo a C none)) dx (exd dx [(f, v)])) a (exo a C (some dx))) dx (exd dx [(f2, u), (f, v)])) hn hd1 (fun b h1 h2 => by rw [upd_ne h2, upd_ne h1, upd_ne h2, upd_ne h1])
        have im := imm_same sm
        exact q _ _ _ (a12.trans g (Aft.same a12.rg sm)) ⟨o7, .inr ⟨dx, [(f2, u), (f, v)], rfl, upd_same, ⟨u, [(f, v)], rfl, Rep.imm ru im, ⟨v, [], rfl, Rep.imm rv im, rfl⟩⟩⟩⟩
    · exact q.elim
  · split at q
    · exact h _ _ q
    · exact q
end DL
/-! DL32: the end of a law whose table of code objects is told. -/
namespace DL
open PySem PySem.Spec PyProof.Rows L2
/-- a law's promise, its argument frozen ahead if need be -/
def spTop (K : PySem.W.Frag) (sp : SpD) : Sp := fun vs H Q _ => vs.length = 1 ∧ (liftSp K 1 sp vs H Q (fun _ _ _ => False) ∨ ∃ a xs, vs = [.ref a] ∧ H a = some (.lst xs) ∧ ∀ o, liftSp K 1 sp vs (upd H a (.frz o (.lst xs))) Q fun _ _ _ => False)
theorem top_own {P : Program} {w : World} {K : PySem.W.Frag} {mg : Str → Option Value} {base : Heap} {k : Nat} {f : Addr} {fd : FuncData} {x : Str} {sp : SpD} (F : FnOk P w K mg base CX0 k f fd [x] (liftSp K 1 sp)) : FnOk P w K mg base CX0 k f fd [x] (spTop K sp) := by
  refine ⟨fun vs H Q E h => h.1, fun A outer s H args us vs Q E hr e0 hb r h => ?_⟩
  rcases h.2 with h | ⟨a, xs, rfl, ha, h⟩
  · refine codeAny_mono (F.run A outer s H args us vs Q _ hr e0 hb r h) fun r s' q => ?_
    cases r with
    | error e => exact (show False from q).elim
    | ok fl => cases fl <;> exact q
  · obtain ⟨od, e⟩ : ∃ od, s.heap.get? a = some od := by
      obtain ⟨_, _, _, _, e⟩ := e0.hok a _ ha
      exact ⟨_, e⟩
    have mu : Mut (H a) := by rw [ha]; trivial
    have x0 := e0.hok a _ ha
    have new : ObjOk P w (upd H a (.frz od (.lst xs))) s.heap a (.frz od (.lst xs)) := by
      refine ⟨e, x0.stay (fun b v _ q => q) (fun b q => ?_) fun b ys q => ?_⟩
      · rw [upd_ne (fun z => by rw [z, ha] at q; cases q)]; exact q
      · rw [upd_ne (fun z => by rw [z, ha] at q; cases q)]; exact q
    have hok := e0.hok.write (x := a) (e := a) mu (.inl rfl) (fun b u _ q => q) ⟨_, e⟩ new
    have ne : ∀ {b}, H b = none → b ≠ a := fun {b} n z => by rw [z, ha] at n; cases n
    have none' : ∀ {b}, H b = none → upd H a (.frz od (.lst xs)) b = none := fun {b} n => by rw [upd_ne (ne n)]; exact n
    have e1 : Env0 P w K mg base A outer s (upd H a (.frz od (.lst xs))) := ⟨e0.frames, e0.mod, fun b o h => ⟨(e0.bs b o h).1, none' (e0.bs b o h).2⟩, e0.bsz, e0.funs, fun b hb => none' (e0.frf b hb), hok, e0.bare⟩
    refine codeAny_mono (F.run A outer s _ args us _ Q _ hr e1 hb r (h _)) fun r s' q => ?_
    cases r with
    | error e => exact (show False from q).elim
    | ok fl =>
      cases fl with
      | ret u =>
        obtain ⟨v, H', os, bare, un, hok', rv, q⟩ := q
        have other : ∀ {b o}, H b = some o → (∀ ys, o ≠ .lst ys) → upd H a (.frz od (.lst xs)) b = some o := fun {b o} e n => by
          rw [upd_ne (fun z => by rw [z, ha] at e; exact n xs (Option.some.inj e).symm)]; exact e
        exact ⟨v, H', os, bare, ⟨fun b o e n => un.keep b o e (none' n), fun b o e n => un.slot b o e (none' n), fun b o e n => un.free b o e (none' n), un.there,
          fun b ys e => un.tups b ys (other e fun _ z => by cases z), fun b o u e => un.frzs b o u (other e fun _ z => by cases z), fun b ps e => un.tbls b ps (other e fun _ z => by cases z)⟩, hok', rv, q⟩
      | next => exact q
      | brk => exact q
      | cont => exact q
theorem law_top {K : PySem.W.Frag} {sp : SpD} {H : Hp} {a P : Addr} {ns : List Int} {n : Nat} (h : ∀ (ns : List Int) (Q : SV → G → Prop) (E : XD → G → Prop), ns.length ≤ n → (∀ Γ, Q (.fz (.bool true)) Γ) → sp [.fz (lI ns)] Q E) (hl : ns.length ≤ n) (hS : SqL K H a (ns.map V.int))
    (hu : ∀ P', LawTab K P' → P' = P) (hT : H P = some (.tbl #[])) : spTop K sp [.ref a] H (fun v _ => v = .bl true) fun _ _ _ => False := by
  have tab : ∀ {H' : Hp}, H' P = some (.tbl #[]) → ∀ P', LawTab K P' → LamX.TabS H' P' lamq := fun {H'} e P' h => by
    rw [hu P' h]
    exact LamX.TabS.nil e
  refine ⟨rfl, ?_⟩
  rcases hS with (e | ⟨o, e⟩) | e
  · refine .inr ⟨a, _, rfl, e, fun o => ⟨rfl, _, rg_one (d := lI ns) (show Rep K _ (lI ns) (.ref a) from ⟨a, _, rfl, .inl ⟨o, upd_same⟩, Reps.of_ints ns⟩) (tab ?_), h ns _ _ hl fun _ _ _ _ rs => rs⟩⟩
    rw [upd_ne (fun z => by rw [z, e] at hT; cases hT)]
    exact hT
  · exact .inl ⟨rfl, _, rg_one (d := lI ns) (show Rep K _ (lI ns) (.ref a) from ⟨a, _, rfl, .inl ⟨o, e⟩, Reps.of_ints ns⟩) (tab hT), h ns _ _ hl fun _ _ _ _ rs => rs⟩
  · exact .inl ⟨rfl, _, rg_one (d := lI ns) (show Rep K _ (lI ns) (.ref a) from ⟨a, _, rfl, .inr e, Reps.of_ints ns⟩) (tab hT), h ns _ _ hl fun _ _ _ _ rs => rs⟩
theorem lawTab_one {K : PySem.W.Frag} {fa c P P' : Addr} {o : Obj} {fd : FuncData} {e : Value} {dd : Option Addr} {vs : Array Value} {sl : Array (Option Value)} (h1 : PySem.W.nsIn K mainGlobals "law" = some (some (.ref fa))) (h2 : K.lookup fa = some o) (h3 : o.data = .func fd) (h4 : fd.code = .ref c)
    (h5 : K.lookup c = some ⟨e, dd, .fields vs, sl⟩) (h6 : vs[11]? = some (.ref P)) (h : LawTab K P') : P' = P := by
  obtain ⟨fa', o', fd', c', e', dd', vs', sl', g1, g2, g3, g4, g5, g6⟩ := h
  rw [h1] at g1; cases g1
  rw [h2] at g2; cases g2
  rw [h3] at g3; cases g3
  rw [h4] at g4; cases g4
  rw [h5] at g5; cases g5
  rw [h6] at g6; cases g6
  rfl
end DL
/-! DL33: an except suite, its exception's dict pinned: isinstance(e, x), e.f. -/
namespace DL
open PySem PySem.Spec PyProof.Rows L2

/-- what the dict of an exception tells -/
def XdO (od : Obj) (vs : List (Str × V)) : Prop := ∃ mA : Str → Option Value, (∀ f, PySem.W.lookIn f od = some (mA f)) ∧ ∀ f, RelO (vs.lookup f) (mA f)
theorem pin_xd {X : Cx} {pins : List (Addr × Obj)} {σ : Sl} {H : Hp} {s : Shared} {dd : Addr} {vs : List (Str × V)} (I : Inv X pins σ H s) (h : H dd = some (.xd vs)) :
    ∃ od, XdO od vs ∧ Inv (X.tr ((dd, od) :: X.pn) X.xe) pins σ (del H dd) s ∧ ∀ σ' H' s', Inv (X.tr ((dd, od) :: X.pn) X.xe) pins σ' H' s' → Inv X pins σ' (upd H' dd (.xd vs)) s' := by
  obtain ⟨mA, hns, rel⟩ := (show ∃ mA, s.heap.Ns1 dd mA ∧ ∀ f, RelO (vs.lookup f) (mA f) from I.hok dd _ h)
  obtain ⟨od, ho, hl⟩ := lookIn_ns hns
  have hdt : ∀ v, od.data ≠ .cell v := fun v z => by
    obtain ⟨o, es, ep, e1, e2, _⟩ := hns
    rw [ho] at e1; cases e1
    rw [e2] at z; cases z
  have ne : ∀ {b}, H b = none → b ≠ dd := fun {b} n z => by rw [z, h] at n; cases n
  have fr : ∀ b ∈ X.fs, H b = none := fun b hb => by
    obtain ⟨_, o, e, _⟩ := I.ok.funs.mem hb
    exact I.base.free b o e (I.ok.frf b hb) fun z => I.ok.exfs b z hb
  have noS : ∀ o, X.s_0.heap.get? dd = some o → X.H_0 dd = none → dd ∉ X.ex → False := fun o e n x => by
    have := I.base.free dd o e n x
    rw [h] at this; cases this
  refine ⟨od, ⟨mA, hl, rel⟩, ⟨I.ok.toTry _ _, I.os, I.bare, ⟨I.base.keep, I.base.slot, fun b o e n x => ?_, I.base.there, fun b xs e => ?_, fun b o u e => ?_, fun b ps e => ?_⟩, I.loc, I.cell, ?_, fun x c e => ?_, fun p hp => ?_, fun b o e => ?_, I.len⟩, fun σ' H' s' J => ?_⟩
  · have := I.base.free b o e n x
    rw [del_ne (ne this)]; exact this
  · have := I.base.tups b xs e
    rw [del_ne (fun z => by rw [z, h] at this; cases this)]; exact this
  · have := I.base.frzs b o u e
    rw [del_ne (fun z => by rw [z, h] at this; cases this)]; exact this
  · obtain ⟨m, q⟩ := I.base.tbls b ps e
    exact ⟨m, by rw [del_ne (fun z => by rw [z, h] at q; cases q)]; exact q⟩
  · rw [del_ne (ne I.free)]; exact I.free
  · rw [del_ne (ne (I.freeC x c e))]; exact I.freeC x c e
  · have hp' : p ∈ (dd, od) :: (X.pn ++ pins) := hp
    rcases List.mem_cons.mp hp' with rfl | hp
    · exact ⟨ho, del_same, fun z => ne I.free z.symm, fun z => ne (fr _ z) rfl, hdt⟩
    · obtain ⟨e, n, r⟩ := I.pin p hp
      exact ⟨e, by rw [del_ne (ne n)]; exact n, r⟩
  · have nb : b ≠ dd := fun z => by rw [z, del_same] at e; cases e
    rw [del_ne nb] at e
    refine (I.hok b o e).stay (fun c v _ q => q) (fun c hc => ?_) fun c xs hc => ?_
    · rw [del_ne (fun z => by rw [z, h] at hc; cases hc)]; exact hc
    · rw [del_ne (fun z => by rw [z, h] at hc; cases hc)]; exact hc
  · obtain ⟨jg, jn, jl, jf, _⟩ := J.pin (dd, od) (List.mem_append_left _ List.mem_cons_self)
    have ne' : ∀ {b u}, H' b = some u → b ≠ dd := fun {b u} e z => by rw [z, jn] at e; cases e
    refine ⟨I.ok, J.os, J.bare, ⟨J.base.keep, J.base.slot, fun b o e n x => ?_, J.base.there, fun b xs e => ?_, fun b o u e => ?_, fun b ps e => ?_⟩, J.loc, J.cell, ?_, fun x c e => ?_, fun p hp => ?_, fun b o e => ?_, J.len⟩
    · by_cases z : b = dd
      · subst z; exact (noS o e n x).elim
      · rw [upd_ne z]; exact J.base.free b o e n x
    · have := J.base.tups b xs e
      rw [upd_ne (ne' this)]; exact this
    · have := J.base.frzs b o u e
      rw [upd_ne (ne' this)]; exact this
    · obtain ⟨m, q⟩ := J.base.tbls b ps e
      exact ⟨m, by rw [upd_ne (ne' q)]; exact q⟩
    · rw [upd_ne (Ne.symm jl)]; exact J.free
    · have ncd : c ≠ dd := fun z => by
        obtain ⟨v, o, ho', hd'⟩ := J.cell x c e
        rw [z] at ho'
        rw [show s'.heap.get? dd = some od from jg] at ho'
        cases ho'
        exact hdt _ hd'
      rw [upd_ne ncd]; exact J.freeC x c e
    · obtain ⟨e, n, r⟩ := J.pin p (List.mem_cons_of_mem _ hp)
      have npd : p.1 ≠ dd := fun z => by
        have := (I.pin p hp).2.1
        rw [z, h] at this; cases this
      exact ⟨e, by rw [upd_ne npd]; exact n, r⟩
    · by_cases z : b = dd
      · subst z
        rw [upd_same] at e
        cases e
        exact ⟨mA, hns.at fun o q => by rw [ho] at q; cases q; exact jg, rel⟩
      · rw [upd_ne z] at e
        refine (J.hok b o e).stay (fun c v _ q => q) (fun c hc => ?_) fun c xs hc => ?_
        · rw [upd_ne (ne' hc)]; exact hc
        · rw [upd_ne (ne' hc)]; exact hc
theorem pss_pin {X : Cx} {suite : List Stmt} {dd : Addr} {vs : List (Str × V)} {t : TS} (hsu : ∀ od, XdO od vs → PSs (X.tr ((dd, od) :: X.pn) X.xe) suite t) :
    PSs X suite (fun D σ H => H dd = some (.xd vs) ∧ t { nx := fun σ' H' => H' dd = none → D.nx σ' (upd H' dd (.xd vs)), rt := fun v H' => H' dd = none → D.rt v (upd H' dd (.xd vs)), bk := fun σ' H' => H' dd = none → D.bk σ' (upd H' dd (.xd vs)), ct := fun σ' H' => H' dd = none → D.ct σ' (upd H' dd (.xd vs)) } σ (del H dd)) := by
  refine ⟨fun pins s σ H D I ⟨h, q⟩ => ?_⟩
  obtain ⟨od, xo, J, back⟩ := pin_xd I h
  have nn : ∀ {σ' H' s'}, Inv (X.tr ((dd, od) :: X.pn) X.xe) pins σ' H' s' → H' dd = none := fun J' => (J'.pin (dd, od) (List.mem_append_left _ List.mem_cons_self)).2.1
  refine thn ((hsu od xo).run pins s σ (del H dd) _ J q) fun f s' r => ?_
  cases f with
  | next => obtain ⟨σ', H', J', q'⟩ := r; exact ⟨σ', _, back _ _ _ J', q' (nn J')⟩
  | brk => obtain ⟨σ', H', J', q'⟩ := r; exact ⟨σ', _, back _ _ _ J', q' (nn J')⟩
  | cont => obtain ⟨σ', H', J', q'⟩ := r; exact ⟨σ', _, back _ _ _ J', q' (nn J')⟩
  | ret u => obtain ⟨v, σ', H', J', rv, q'⟩ := r; exact ⟨v, σ', _, back _ _ _ J', rv, q' (nn J')⟩

end DL
namespace PySem.W
theorem clsSome {K : Frag} {C : Addr} (h : hasDictIn K C = true) : (clsIn K C).isSome = true := by
  obtain ⟨cd, hc, _⟩ := any_some h
  rw [hc]; rfl
end PySem.W
namespace DL
open PySem PySem.Spec PyProof.Rows L2
/-! ### the exception that a suite holds -/
/-- numbers and texts -/
def flatX : D → Bool
  | .int _ => true
  | .str _ => true
  | _ => false
theorem flatX_rep {K : PySem.W.Frag} {H H' : Hp} {d : D} {v : V} (f : flatX d = true) (h : Rep K H d v) : Rep K H' d v := by
  cases d <;> first | exact h | cases f
/-- at a lies the exception x, pinned, and its dict -/
structure Held (X : Cx) (x : XD) (a : Addr) (oe : Obj) (C : Addr) : Prop where
  cls : oe.cls = .ref C
  fl : ∃ vs, oe.data = .fields vs
  pin : (a, oe) ∈ X.pn
  nm : PySem.W.nsIn X.K mainGlobals x.cls = some (some (.ref C))
  dict : (x.fs = [] ∧ oe.dict = none) ∨ ∃ dd od vs, oe.dict = some dd ∧ (dd, od) ∈ X.pn ∧ XdO od vs ∧ ∀ f d, x.fs.lookup f = some d → ∃ v, vs.lookup f = some v ∧ ∀ H, Rep X.K H d v
/-- what a class of exceptions of one's own must say -/
structure XCls (K : PySem.W.Frag) (C : Addr) : Prop where
  hg : PySem.W.findIn K (.ref C) "__getattribute__" = some (some (.builtin "BaseException.__getattribute__"))
  hk : PySem.W.findIn K (.ref C) "__getattr__" = some none
  hs : PySem.W.subIn K (.ref C) (.type "BaseException") = some true
  hd : PySem.W.hasDictIn K C = true
  ha : PySem.W.findIn K (.ref C) "__class__" = some (some (.builtin "object.__class__"))
  hn : PySem.W.specialIn K (.builtin "object.__class__") "__get__" = some (some (.builtin "getset_descriptor.__get__"))
  ht : PySem.W.takesIn K (.builtin "object.__class__") = some true
  hm : PySem.W.mroIn K C (.type "object") = some true
theorem Held.inst {X : Cx} {x : XD} {a C : Addr} {oe : Obj} (h : Held X x a oe C) {pins : List (Addr × Obj)} {σ : Sl} {H : Hp} {s : Shared} (I : Inv X pins σ H s) : ∃ od, PySem.W.InstAt s.heap a oe C od := by
  obtain ⟨ha, _⟩ := I.pin _ (List.mem_append_left _ h.pin)
  obtain ⟨vs, hv⟩ := h.fl
  have no : PySem.W.notCls oe = true := by unfold PySem.W.notCls; rw [hv] <;> rfl
  rcases h.dict with ⟨_, e⟩ | ⟨dd, od, us, e, hp, _⟩
  · exact ⟨none, ha, h.cls, no, by rw [e]; trivial⟩
  · obtain ⟨hd, _⟩ := I.pin _ (List.mem_append_left _ hp)
    exact ⟨some od, ha, h.cls, no, by rw [e]; exact hd⟩
def tdXf (i : Nat) (a : Addr) (d : D) : TD := fun Γ Q => Γ[i]? = some (.raw (.ref a)) ∧ Q (.fz d) Γ
/-- e.f -/
theorem pd_xf {X : Cx} {x : XD} {a C : Addr} {oe : Obj} (h : Held X x a oe C) (c : XCls X.K C) (i : Nat) {n f : Str} {d : D} {p1 pos : Pos} (hno : PySem.W.findIn X.K (.ref C) f = some none) (he : x.fs.lookup f = some d) (hN : X.N[i]? = some n := by rfl)
    (hv : Vis X.env.scope n := by first | exact Or.inl rfl | exact Or.inr (Or.inl rfl) | exact Or.inr (Or.inr rfl)) (hd : (n == ("__debug__" : Str)) = false := by decide) (hcd : (n == ("__classdict__" : Str)) = false := by decide)
    (hb : attributeBase (.Name n p1) f X.env (eval (.Name n p1) X.env) = eval (.Name n p1) X.env := by rfl) : PD X (.Attribute (.Name n p1) f pos) (tdXf i a d) := by
  refine ⟨⟨fun pins s σ H Q I ⟨Γ, g, e, q⟩ => ?_⟩, fun Γ Q Q' hq ⟨e, q⟩ => ⟨e, hq _ _ q⟩⟩
  have es := g.raw _ _ e
  refine attr_of hb (thn ((pe_var (pos := p1) hN hv hd hcd).run pins s σ H (fun v H1 => v = .ref a ∧ H1 = H) I ⟨_, es, rfl, rfl⟩) fun u s1 ⟨v, H1, I1, r1, ev, eh⟩ => ?_)
  subst ev
  subst eh
  obtain rfl : u = Value.ref a := r1
  rcases h.dict with ⟨e0, _⟩ | ⟨dd, od, vs, e0, hp, ⟨mA, hl, rel⟩, fv⟩
  · rw [e0] at he; cases he
  · obtain ⟨ha, _⟩ := I1.pin _ (List.mem_append_left _ h.pin)
    obtain ⟨hdd, _⟩ := I1.pin _ (List.mem_append_left _ hp)
    obtain ⟨vs', hv'⟩ := h.fl
    have J : PySem.W.InstAt s1.heap a oe C (some od) := ⟨ha, h.cls, by unfold PySem.W.notCls; rw [hv'] <;> rfl, by rw [e0]; exact hdd⟩
    obtain ⟨v, ev, rv⟩ := fv f d he
    obtain ⟨u, hu, ru⟩ := RelO.some_of (v := v) (o := mA f) (by rw [← ev]; exact rel f)
    exact PySem.HandSPX.exc_get I1.kIn J c.hg c.hk c.hs (PySem.W.findObj_own c.hd hno rfl (by rw [hl, hu])) (handed_of ru) ⟨v, _, I1.tok _, ru, q v _ (Aft.refl g) (rv _)⟩
/-- isinstance(e, T) -/
theorem pd_isX {X : Cx} {x : XD} {a C : Addr} {oe : Obj} (h : Held X x a oe C) (c : XCls X.K C) (i : Nat) {n y : Str} {cV : V} {cv : Value} {b : Bool} {p0 p1 p2 pos : Pos} (hk : PySem.W.kitOne X.K (.ref C) cv = some b) (hy : PE X (.Name y p2) (tC cV)) (hr : ∀ u, RelV cV u → u = cv) (hm : X.mg "isinstance" = none) (hN : X.N[i]? = some n := by rfl)
    (hv : Vis X.env.scope n := by first | exact Or.inl rfl | exact Or.inr (Or.inl rfl) | exact Or.inr (Or.inr rfl)) (hd : (n == ("__debug__" : Str)) = false := by decide) (hcd : (n == ("__classdict__" : Str)) = false := by decide) (hg : Gl X "isinstance" := by rfl)
    (hpl : (backTo pos (starEach [(.Name y p2)] X.env)).any (·.1) = false := by rfl) :
    PD X (.Call (.Name "isinstance" p0) [.Name n p1, .Name y p2] [] pos) (tdXf i a (.bool b)) := by
  have cr : CallR X (.builtin "isinstance") (fun xs H Q => ∃ c : V, xs = [.ref a, c] ∧ (∀ u, RelV c u → u = cv) ∧ Q (.bl b) H) := by
    intro pins s σ H xs us Q I r q
    obtain ⟨c', rfl, hc, q⟩ := q
    cases r with
    | cons rx rr =>
      cases rr with
      | cons rt rr =>
        cases rr
        cases rx
        have ec := hc _ rt
        subst ec
        obtain ⟨od, J⟩ := h.inst I
        exact PySem.W.kia_one (PySem.W.kitx_exc (PySem.W.clsSome c.hd) c.hg c.hk c.hs c.ha c.hn c.ht c.hm) I.kIn J hk (fun z => nomatch z) fun tk => ⟨.bl b, H, I.kept (t' := tk) fun _ _ z => z, rfl, q⟩
  refine ⟨PE.imp (pe_callB cr hg hm PyProof.Rows.boot_isinstance (pa_cons (pe_var hN hv hd hcd) (pa_cons hy pa_nil)) (hpl := hpl)) fun σ H Q ⟨Γ, g, e, q⟩ => ?_, fun Γ Q Q' hq ⟨e, q⟩ => ⟨e, hq _ _ q⟩⟩
  exact ⟨_, g.raw _ _ e, cV, rfl, hr, q _ _ (Aft.refl g) rfl⟩
end DL
/-! DL34: a lambda made, handed to _law_word, called there. -/
namespace DL
open PySem PySem.Spec PyProof.Rows L2
theorem pe_bty {X : Cx} {x : Str} {T : String} {pos : Pos} (hg : Gl X x) (hm : X.mg x = none) (hv : bootBuiltins x = some (.type T)) (hn : x ≠ "__name__" := by decide) (hd : (x == ("__debug__" : Str)) = false := by decide) : PE X (.Name x pos) (tC (.ty T)) :=
  ⟨fun pins s σ H Q I q => ld_blt I hg hm hv ⟨.ty T, H, I, rfl, q⟩ hn hd⟩
section
variable {X : Cx} {pins : List (Addr × Obj)} {σ : L2.St} {H : Hp} {s : Shared}
/-- the lambda is made (as the hand layer's lam_make2, all tables but this one told to stay) -/
theorem lam_make3 {c P : Addr} {params : Arguments} {body : Expr} {scope : Scope} {pos : Pos} {E : Value → Shared → Prop} {Q : Value → Shared → Prop} (I : Inv X pins σ H s) (TB : LamX.TabB X.base X.mg c P) (hcode : X.env.code = .ref c)
    (hT : LamX.TabS H P (X.env.qual ++ "<lambda>")) (hdef : defaultsOf params X.env = ([], [])) (hfree : ∀ y ∈ scope.names, y.2 = .free → ∃ c, X.env.cells.lookup y.1 = some c)
    (h : ∀ (f c' : Addr) (pm ctv : Value) (H1 : Hp) (s' : Shared), Inv X pins σ H1 s' → (∀ b o, b ≠ P → H b = some o → H1 b = some o) → LamX.TabS H1 P (X.env.qual ++ "<lambda>") →
      s'.heap.get? f = some (PySem.W.kla_obj "<lambda>" (X.env.qual ++ "<lambda>") params body scope (cloFrom X.env.cells scope.names []) pm c' ctv) → H1 f = none → f ∉ frs X.stack → H1 c' = some (LamX.CodeO c' (X.env.qual ++ "<lambda>")) → Q (.ref f) s') :
    wpAny (model X.prog X.w) X.A (eval (.Lambda params body scope pos) X.env) Q E s := by
  obtain ⟨ps, hP, ht, ha⟩ := hT
  refine PySem.W.kla_eval hdef ?_
  have bP : s.heap.BuiltinsAt X.mg P := TB.bm.keeps I.bk
  have hP' : s.heap.get? P = some { cls := .none, data := .fields ps } := I.hok P _ hP
  have nofr : ∀ f, s.heap.objs.size ≤ f → f ∉ frs X.stack := fun f hf z => by
    rcases List.mem_cons.mp (I.stkSub _ z) with e | e
    · have h1 := I.lt
      rw [← e] at h1
      exact Nat.lt_irrefl _ (Nat.lt_of_lt_of_le h1 hf)
    · exact I.nofs hf e
  cases hc : codeAmong pos ps.toList with
  | none =>
    refine PySem.W.kla_makeFunction (mg := X.mg) (c := c) (P := P) (ps := ps) (closure_ok hfree) I.ok.glob (I.mod.glob.keeps I.bk) hcode (TB.code.keeps I.bk) hP' ht hc TB.gP bP fun c' ctv h' tk hx hge hlt hrec htb => ?_
    obtain ⟨c2, oc, vs, t, e2, hoc, hd, hv⟩ := hrec
    cases e2
    have hsz : s.heap.objs.size ≤ h'.objs.size := Nat.le_trans hge (Nat.le_of_lt hlt)
    have nC : H c' = none := I.hok.fresh hge
    have I1 := LamX.inv_table (t' := tk) (more := #[rawInt pos.line, rawInt pos.col, .ref c']) (h' := h'.push (PySem.W.kla_obj "<lambda>" (X.env.qual ++ "<lambda>") params body scope (cloFrom X.env.cells scope.names []) ((X.mg "__name__").getD .none) c' ctv)) I hP
      (fun b o hb e => Heap.get?_push_of_some _ (hx b o hb e)) (Heap.get?_push_of_some _ htb) hge ⟨oc, vs, t, Heap.get?_push_of_some _ hoc, hd, hv⟩
    have hE : ∀ b o, b ≠ P → H b = some o → upd (upd H P (.tbl (ps ++ #[rawInt pos.line, rawInt pos.col, .ref c']))) c' (LamX.CodeO c' (X.env.qual ++ "<lambda>")) b = some o := fun b o nb e => by
      rw [upd_ne (ne_of_none e nC), upd_ne nb]
      exact e
    have eL : (ps ++ #[rawInt pos.line, rawInt pos.col, .ref c']).toList = ps.toList ++ [rawInt pos.line, rawInt pos.col, .ref c'] := by simp
    refine h h'.objs.size c' ((X.mg "__name__").getD .none) ctv _ _ I1 hE ?_ (Heap.get?_push_size _ rfl) ?_ (nofr _ hsz) upd_same
    · refine ⟨_, by rw [upd_ne (ne_of_none hP nC), upd_same], by rw [eL]; exact PySem.TriplesOk_snoc _ _ _ _ ht, fun p' cv hcv => ?_⟩
      rw [eL] at hcv
      rcases LamX.among_app _ ht hcv with z | z
      · obtain ⟨c0, e1, e2⟩ := ha p' cv z
        exact ⟨c0, e1, hE _ _ (fun q => by rw [q, hP] at e2; have z2 : HO.tbl _ = HO.ext _ := Option.some.inj e2; cases z2) e2⟩
      · exact ⟨c', z, upd_same⟩
    · have n1 : h'.objs.size ≠ c' := Nat.ne_of_gt hlt
      have n2 : h'.objs.size ≠ P := Nat.ne_of_gt (Nat.lt_of_lt_of_le (Heap.lt_size hP') hsz)
      rw [upd_ne n1, upd_ne n2]
      exact I.hok.fresh hsz
  | some cv =>
    obtain ⟨c', e, hco⟩ := ha pos cv hc
    subst e
    refine PySem.W.kla_makeFunctionHit (mg := X.mg) (c := c) (P := P) (ps := ps) (closure_ok hfree) I.ok.glob (I.mod.glob.keeps I.bk) hcode (TB.code.keeps I.bk) hP' ht hc bP fun ctv h' tk hx hsz => ?_
    have I1 : Inv X pins σ H { s with heap := h'.push (PySem.W.kla_obj "<lambda>" (X.env.qual ++ "<lambda>") params body scope (cloFrom X.env.cells scope.names []) ((X.mg "__name__").getD .none) c' ctv), toks := tk } := I.kept fun b o e => Heap.get?_push_of_some _ (hx b o e)
    exact h h'.objs.size c' ((X.mg "__name__").getD .none) ctv H _ I1 (fun _ _ _ e => e) ⟨ps, hP, ht, ha⟩ (Heap.get?_push_size _ rfl) (I.hok.fresh hsz) (nofr _ hsz) hco
end
/-! ### what _law_word makes of it -/
/-- kept but for tables -/
structure Kept (H H' : Hp) : Prop where
  keep : ∀ a u, H a = some u → [NT u] → H' a = some u
  im : Imm H H'
def wordOf (x : XD) : Option D :=
  if x.cls = "BadYard" then (x.fs.lookup ("why" : Str)).bind fun w => (x.fs.lookup ("at" : Str)).map fun a => .tuple [.str "yard", w, a]
  else if x.cls = "NotDone" then (x.fs.lookup ("at" : Str)).map fun a => .tuple [.str "done", a]
  else if x.cls = "TooMany" then some (.tuple [.str "many"])
  else if x.cls = "Halt" then (x.fs.lookup ("why" : Str)).map fun a => .tuple [.str "halt", a]
  else if x.cls = "Busy" then some (.tuple [.str "busy"])
  else if x.cls = "NotApart" then (x.fs.lookup ("deed" : Str)).map fun a => .tuple [.str "apart", a]
  else if x.cls = "BadText" then (x.fs.lookup ("row" : Str)).map fun a => .tuple [.str "text", a]
  else none
theorem word_yard {w a : D} : wordOf ⟨"BadYard", [("at", a), ("why", w)]⟩ = some (.tuple [.str "yard", w, a]) := rfl
theorem word_done {a : D} : wordOf ⟨"NotDone", [("at", a)]⟩ = some (.tuple [.str "done", a]) := rfl
theorem word_many : wordOf ⟨"TooMany", []⟩ = some (.tuple [.str "many"]) := rfl
theorem word_halt {a : D} : wordOf ⟨"Halt", [("why", a)]⟩ = some (.tuple [.str "halt", a]) := rfl
theorem word_busy : wordOf ⟨"Busy", []⟩ = some (.tuple [.str "busy"]) := rfl
theorem word_apart {a : D} : wordOf ⟨"NotApart", [("deed", a)]⟩ = some (.tuple [.str "apart", a]) := rfl
theorem word_text {a : D} : wordOf ⟨"BadText", [("row", a)]⟩ = some (.tuple [.str "text", a]) := rfl
/-- what the call makes of the lambda's own reading -/
def TTw (K : PySem.W.Frag) : (XK → Hp → VK → Prop) → Hp → VK → Prop := fun tl H Q =>
  tl (fun cls d H' => (∀ P', LawTab K P' → LamX.TabS H' P' lamq) ∧ ∃ x w, XOk K H' x cls d ∧ x.fs.all (fun p => flatX p.2) = true ∧ wordOf x = some w ∧ ∀ v H'', Kept H' H'' → Rep K H'' w v → Q v H'') H (fun _ H' => Q .non H')
/-- the def _law_word: a calls what it got -/
structure WordOk (P : Program) (w : World) (K : PySem.W.Frag) (mg : Str → Option Value) (base : Heap) : Prop where
  out : ∃ (g : Addr) (pg : Arguments) (bg : List Stmt) (sg : Scope) (dV kV doc pm cdv ct oc : Value) (an od : Option Addr) (osl : Array (Option Value)) (Ng : List Str) (a : Str), mg "_law_word" = some (.ref g) ∧ PySem.W.keepIn K (.ref g) = true ∧
    K.lookup g = some ⟨oc, od, .func (PySem.W.fnOf "_law_word" "_law_word" pg bg sg dV kV doc pm an cdv ct), osl⟩ ∧ PySem.W.codeIn K cdv "_law_word" = true ∧ L2.Binds K (PySem.W.fnOf "_law_word" "_law_word" pg bg sg dV kV doc pm an cdv ct) [a] [] ∧ FnScope Ng [a] sg ∧ Ng[0]? = some a ∧ Vis sg a ∧
    (a == ("__debug__" : Str)) = false ∧ (a == ("__classdict__" : Str)) = false ∧
    ∀ (A : Around) (stack : List Env) (f c' : Addr) (s : Shared) (H : Hp) (Q : VK) (tl : XK → Hp → VK → Prop), Room 2 (A.deeper (envOfC "_law_word" sg s.heap.objs.size g cdv)) →
      (∀ (W : WX) (pn : List (Addr × Obj)) (xe : Value → Shared → Prop) (E : XK) (p1 p2 : Pos), Takes ((cxOf CX0 P w K mg base Ng "_law_word" sg g cdv A stack s H E0).tr pn xe) W → (∀ cls d σ' H', E cls d H' → W cls d σ' H') →
        PE ((cxOf CX0 P w K mg base Ng "_law_word" sg g cdv A stack s H E0).tr pn xe) (.Call (.Name a p1) [] [] p2) (fun σZ HZ Q => σZ[0]? = some (some (.ref f)) ∧ HZ c' = some (LamX.CodeO c' lamq) ∧ tl E HZ Q)) →
      H c' = some (LamX.CodeO c' lamq) → (∀ P', LawTab K P' → LamX.TabS H P' lamq) → TTw K tl H Q →
      ∃ t, PSs (cxOf CX0 P w K mg base Ng "_law_word" sg g cdv A stack s H E0).nox bg t ∧ t { nx := fun _ H' => Q .non H', rt := Q } (L2.start Ng [.ref f]) H
theorem RG.kept {K : PySem.W.Frag} {H H' : Hp} {σ : Sl} {Γ : G} (g : RG K H σ Γ) (k : Kept H H') : RG K H' σ Γ := by
  refine ⟨g.len, fun j d q => ?_, fun j p o q => ?_, g.raw, g.one, g.tbm k.im⟩
  · obtain ⟨v, h1, h2⟩ := g.fz j d q
    exact ⟨v, h1, h2.imm k.im⟩
  · obtain ⟨h1, h2⟩ := g.ow j p o q
    exact ⟨h1, h2.keepN (fun a _ u z => k.keep a u z) k.im⟩
theorem Aft.kept {K : PySem.W.Frag} {H H' : Hp} {σ : Sl} {Γ : G} (g : RG K H σ Γ) (k : Kept H H') : Aft K H Γ H' σ Γ := ⟨fun a u e _ => k.keep a u e, g.kept k, fun _ q => .inl q, k.im⟩
theorem kept_table {H H1 : Hp} {P : Addr} (h : LamX.TabS H P lamq) (eN : ∀ b o, b ≠ P → H b = some o → H1 b = some o) (T1 : LamX.TabS H1 P lamq) : Kept H H1 := by
  obtain ⟨ps, hP, _, _⟩ := h
  refine ⟨fun a u e => ?_, ⟨fun a u e m => ?_, ⟨fun a h => ?_, fun a qs e => ?_⟩⟩⟩
  · intro nt
    exact eN a u (fun z => by rw [z, hP] at e; cases e; exact nt.nt ps rfl) e
  · exact eN a u (fun z => by rw [z, hP] at e; cases e; exact m trivial) e
  · by_cases z : a = P
    · rw [z]; exact T1
    · obtain ⟨qs, e1, e2, e3⟩ := h
      refine ⟨qs, eN _ _ z e1, e2, fun pos cv hc => ?_⟩
      obtain ⟨c, ec, ek⟩ := e3 pos cv hc
      exact ⟨c, ec, eN _ _ (fun q => by rw [q, hP] at ek; have z2 : HO.tbl _ = HO.ext _ := Option.some.inj ek; cases z2) ek⟩
  · by_cases z : a = P
    · subst z
      obtain ⟨rs, e1, _⟩ := T1
      exact ⟨rs, e1⟩
    · exact ⟨qs, eN _ _ z e⟩
def tdWord (t : TXD) : TD := fun Γ Q => t Γ (fun _ Γ' => Q (.fz .none) Γ') (fun x Γ' => x.fs.all (fun p => flatX p.2) = true ∧ ∃ w, wordOf x = some w ∧ Q (.fz w) Γ')
theorem pd_word {X : Cx} {p lpos pos : Pos} {params : Arguments} {body : Expr} {scope : Scope} {tb : TXD} {k : Nat} (Wd : WordOk X.prog X.w X.K X.mg X.base) (hT : ∃ c P, LawTab X.K P ∧ LamX.TabB X.base X.mg c P ∧ X.env.code = .ref c) (hr : Room (k + 4) X.A) (L : LamX.LamS X.env.scope scope) (hdef : defaultsOf params X.env = ([], []))
    (hbind : ∀ (q : Str) (cl : List (Str × Addr)) (pm cv ctv : Value), bindArgs (PySem.W.kla_fn "<lambda>" q params body scope cl pm cv ctv) ⟨[], []⟩ = pure [])
    (hbody : ∀ (A : Around) (outer : List Env) (s : Shared) (H : Hp) (E : XK) (f c' : Addr), Room k (A.deeper (LamX.lamEnv X scope s.heap.objs.size f c')) → PDX (LamX.lamCx X A outer s H E scope f c') body tb)
    (hg : Gl X "_law_word" := by rfl) (hq : X.env.qual ++ "<lambda>" = lamq := by rfl) : PD X (.Call (.Name "_law_word" p) [.Lambda params body scope lpos] [] pos) (tdWord tb) := by
  have mt : MonoX tb := (hbody X.A X.stack X.s_0 X.H_0 (fun _ _ _ => False) 0 0 ((hr.deeper _).mono (by omega))).mono
  refine ⟨⟨fun pins s σ H Q I ⟨Γ, g, q⟩ => ?_⟩, fun Γ Q Q' h => mt _ _ _ _ _ (fun _ _ => h _ _) fun x Γ' ⟨z1, w, z2, z3⟩ => ⟨z1, w, z2, h _ _ z3⟩⟩
  obtain ⟨gA, pg, bg, sg, dV, kV, doc, pm, cdv, ct, oc, an, od, osl, Ng, a, hm, hk, lk, hcg, hb, Sg, hNg, hva, hd, hcd, hG⟩ := Wd.out
  obtain ⟨c, P, hlt, TB, hcode⟩ := hT
  refine wpAny_Call_Name_kw (ld_glob I hg hm ?_ (by decide))
  refine PySem.W.callWith_K (h₀ := X.base) I.ok.mod.kin hk ?_ (by rfl) (by rfl)
  show wpAny _ _ (spliced ((false, eval (.Lambda params body scope lpos) X.env) :: backTo pos (starEach [] X.env))) _ _ s
  refine Calls.spliced_cons (lam_make3 I TB hcode (by rw [hq]; exact g.tb P hlt) hdef (L.has I.ok) fun f c' pm' ctv H1 s' I1 eN T1 hf hfn hfr hco => ?_)
  refine Calls.spliced_nil ⟨I1.kIn, ?_⟩
  rw [hq] at T1
  have kp : Kept H H1 := kept_table (g.tb P hlt) eN T1
  have a1 : Aft X.K H Γ H1 σ Γ := Aft.kept g kp
  have rc : codeAny (model X.prog X.w) X.A (.call (.ref gA) ⟨[.ref f], []⟩) (CR CX0 X.stack X.prog X.w H1 s' Q E0) s' := by
    refine LamX.run_ofS (N := Ng) (ps := [a]) (us := [.ref f]) (vs := [.ref f]) lk hcg Sg (hr.mono (j := k + 3 + 1) (by omega)) I1.env0 (hb s' [.ref f] I1.kIn rfl) (.cons rfl .nil) rfl fun hr' => ?_
    obtain ⟨t', ht', hq'⟩ := hG X.A X.stack f c' s' H1 Q (fun E H' Q' => liftE X.K (fun c d _ H => E c d H) tb σ H' Q') (hr'.mono (by omega))
      (fun W pn xe E p1 p2 tk hW => by
        have := LamX.pe_act (k := k) (i := 0) (p1 := p1) (p2 := p2) (tb := liftE X.K (fun c d _ H => E c d H) tb) I1 L hf hfn hfr (hbind _ _ _ _ _) tk hW (hr'.mono (by omega)) (fun A outer s H hr2 => (hbody A outer s H E f c' hr2).run _ (takes_of rfl rfl rfl rfl)) hNg hva hd hcd
        rw [hq] at this
        exact this) (by rw [hq] at hco; exact hco) (a1.rg.tb) ⟨Γ, a1.rg, mt _ _ _ _ _ (fun r Γ' z v H' a rr => z .non H' (a1.trans g a) rfl) (fun x Γ' ⟨z1, w, z2, z3⟩ c d H' a xo => ⟨a.rg.tb, x, w, xo, z1, z2, fun v H'' kp2 rp => z3 v H'' ((a1.trans g a).trans g (Aft.kept a.rg kp2)) rp⟩) q⟩
    exact ⟨t', ht'.nox, hq'⟩
  refine wpAny_call (codeAny_mono rc fun r s2 hq => ?_)
  cases r with
  | error e => exact (show False from hq).elim
  | ok fl =>
    cases fl with
    | ret u => exact I1.after hq
    | next => exact False.elim hq
    | brk => exact False.elim hq
    | cont => exact False.elim hq
end DL
/-! DL35: what is known of the program's exceptions; count, index of lists of bools; the suite of _law_word. -/
namespace DL
open PySem PySem.Spec PyProof.Rows L2
/-! ### list.count, list.index of bools -/
def isBo : D → Bool
  | .bool _ => true
  | _ => false
def gCntB : GM := fun o ds k => match o, ds with
  | .lst xs, [.bool b] => xs.all isBo = true ∧ k (.int (countIn (.bool b) xs)) (.lst xs)
  | _, _ => False
theorem cntB_mt {X : Cx} : MtR X "list.count" (fun x xs H Q => ∃ (p : Addr) (ys : List V) (ds : List D) (b : Bool), x = .ref p ∧ xs = [.bl b] ∧ H p = some (.lst ys) ∧ Reps X.K H ds ys ∧ ds.all isBo = true ∧ Q (.int (countIn (.bool b) ds)) H) := by
  intro pins s σ H x xs v us Q I rx rxs h
  obtain ⟨p, ys, ds, b, rfl, rfl, hp, rp, al, q⟩ := h
  cases rx
  cases rxs with
  | cons ry rt =>
    cases rt
    cases ry
    obtain ⟨its, rv, ⟨o, n, ho, hc, _, hd⟩, _⟩ := I.list (.inl (.of hp))
    obtain ⟨as, ra⟩ := reps_reads I rp rv
    refine count_list_bools (vs := its) (xs := ds) ⟨o, ho, hc, n, hd⟩ ra ?_ ⟨.int _, H, I.tok _, ⟨_, rfl⟩, q⟩
    rw [List.all_eq_true] at al ⊢
    intro d hd'
    have := al d hd'
    cases d <;> first | rfl | cases this
theorem mt_cntB {X : Cx} : MtD X "list" "list.count" gCntB := by
  refine ⟨fun o ds k q => ?_, ⟨_, cntB_mt, fun H p o ds vs Q ok rp q => ?_⟩, fun o ds k k' h q => ?_⟩
  · unfold gCntB at q ⊢
    split at q
    · exact ⟨q.1, rfl, q.2⟩
    · exact q
  · unfold gCntB at q
    split at q
    · obtain ⟨ws, e, rw'⟩ := id ok
      obtain ⟨v, w, rfl, r1, r2⟩ := rp
      cases (show w = [] from r2)
      cases (show v = .bl _ from r1)
      exact ⟨p, ws, _, _, rfl, rfl, e, rw', q.1, q.2 _ H (fun _ _ _ z => z) (.refl H) ok rfl⟩
    · exact q.elim
  · unfold gCntB at q ⊢
    split at q
    · exact ⟨q.1, h _ _ q.2⟩
    · exact q
/-- the first place -/
def gIdxB : GM := fun o ds k => match o, ds with
  | .lst xs, [.bool b] => ∃ j : Nat, xs[j]? = some (.bool b) ∧ xs.take j = List.replicate j (.bool !b) ∧ xs.all isBo = true ∧ k (.int j) (.lst xs)
  | _, _ => False
theorem mt_idxB {X : Cx} : MtD X "list" "list.index" gIdxB := by
  refine ⟨fun o ds k q => ?_, ⟨_, mt_index, fun H p o ds vs Q ok rp q => ?_⟩, fun o ds k k' h q => ?_⟩
  · unfold gIdxB at q ⊢
    split at q
    · obtain ⟨j, q1, q2, q3, q4⟩ := q
      exact ⟨j, q1, q2, q3, rfl, q4⟩
    · exact q
  · unfold gIdxB at q
    split at q
    · rename_i xs b
      obtain ⟨j, q1, q2, q3, q4⟩ := q
      obtain ⟨ws, e, rw'⟩ := id ok
      obtain ⟨v, w, rfl, r1, r2⟩ := rp
      cases (show w = [] from r2)
      cases (show v = .bl _ from r1)
      have hb : ∀ (m : Nat) (z : V), ws[m]? = some z → ∃ k, xs[m]? = some (.bool k) ∧ z = .bl k := fun m z hz => by
        have hl := rw'.len
        have hm : m < xs.length := by rw [← hl]; exact (List.getElem?_eq_some_iff.mp hz).1
        obtain ⟨d, hd⟩ : ∃ d, xs[m]? = some d := ⟨_, List.getElem?_eq_getElem hm⟩
        obtain ⟨z', h1, h2⟩ := rw'.get hd
        rw [hz] at h1; cases h1
        have := List.all_eq_true.mp q3 d (List.mem_of_getElem? hd)
        cases d with
        | bool k => exact ⟨k, hd, h2⟩
        | none => cases this
        | int i => cases this
        | str x => cases this
        | tuple x => cases this
        | list x => cases this
        | dict x => cases this
      obtain ⟨z, hz, rz⟩ := rw'.get q1
      cases (show z = .bl _ from rz)
      refine ⟨p, ws, .bl b, j, .bl b, rfl, rfl, .inl (.of e), rfl, List.all_eq_true.mpr fun z hz => ?_, hz, by simp [eqV], fun m z hm hz => ?_, q4 _ H (fun _ _ _ z => z) (.refl H) ok rfl⟩
      · obtain ⟨m, hm⟩ := List.mem_iff_getElem?.mp hz
        obtain ⟨k, _, rfl⟩ := hb m z hm
        rfl
      · obtain ⟨k, h1, rfl⟩ := hb m z hz
        have : (xs.take j)[m]? = some (.bool k) := by rw [List.getElem?_take_of_lt hm]; exact h1
        rw [q2] at this
        have hk := List.mem_of_getElem? this
        rw [List.mem_replicate] at hk
        obtain ⟨_, hk⟩ := hk
        cases hk
        cases b <;> rfl
    · exact q.elim
  · unfold gIdxB at q ⊢
    split at q
    · obtain ⟨j, q1, q2, q3, q4⟩ := q
      exact ⟨j, q1, q2, q3, h _ _ q4⟩
    · exact q
/-! ### the program's exceptions -/
def xNames : List Str := ["BadYard", "NotDone", "TooMany", "Halt", "Busy", "NotApart", "BadText"]
def xFields : List Str := ["at", "why", "deed", "row"]
structure XF (K : PySem.W.Frag) (mg : Str → Option Value) : Prop where
  cl : ∀ n ∈ xNames, ∃ C, mg n = some (.ref C) ∧ PySem.W.nsIn K mainGlobals n = some (some (.ref C)) ∧ XCls K C ∧ ∀ f ∈ xFields, PySem.W.findIn K (.ref C) f = some none
  kit : ∀ n ∈ xNames, ∀ m ∈ xNames, ∀ c C, PySem.W.nsIn K mainGlobals n = some (some (.ref c)) → PySem.W.nsIn K mainGlobals m = some (some (.ref C)) → PySem.W.kitOne K (.ref c) (.ref C) = some (n == m)
  kitV : ∀ n ∈ xNames, ∀ c, PySem.W.nsIn K mainGlobals n = some (some (.ref c)) → PySem.W.kitOne K (.ref c) (.type "ValueError") = some true
  exm : ∀ n ∈ xNames, ∀ m ∈ xNames, ExmS K n m (n == m)
  exmW : ∀ n ∈ xNames, ExmS K n "WishError" true
  ve : mg "ValueError" = none
  wish : ∃ C, mg "WishError" = some (.ref C) ∧ PySem.W.nsIn K mainGlobals "WishError" = some (some (.ref C))
theorem XF.nm {K : PySem.W.Frag} {mg : Str → Option Value} (F : XF K mg) {n : Str} (hn : n ∈ xNames := by decide) : ∃ C : Addr, mg n = some (.ref C) ∧ PySem.W.nsIn K mainGlobals n = some (some (.ref C)) := by
  obtain ⟨C, h1, h2, _⟩ := F.cl n hn
  exact ⟨C, h1, h2⟩
theorem XF.at_ {K : PySem.W.Frag} {mg : Str → Option Value} (F : XF K mg) {n : Str} (hn : n ∈ xNames) {C : Addr} (h : PySem.W.nsIn K mainGlobals n = some (some (.ref C))) : mg n = some (.ref C) ∧ XCls K C ∧ ∀ f ∈ xFields, PySem.W.findIn K (.ref C) f = some none := by
  obtain ⟨C', h1, h2, h3, h4⟩ := F.cl n hn
  rw [h] at h2
  cases h2
  exact ⟨h1, h3, h4⟩
theorem pd_isN {X : Cx} {x : XD} {a C : Addr} {oe : Obj} (h : Held X x a oe C) (F : XF X.K X.mg) (hx : x.cls ∈ xNames) (i : Nat) {n m : Str} {p0 p1 p2 pos : Pos} (hi : X.mg "isinstance" = none) (hN : X.N[i]? = some n := by rfl) (hm : m ∈ xNames := by decide) (hgm : Gl X m := by rfl) (hdm : (m == ("__debug__" : Str)) = false := by decide)
    (hv : Vis X.env.scope n := by first | exact Or.inl rfl | exact Or.inr (Or.inl rfl) | exact Or.inr (Or.inr rfl)) (hd : (n == ("__debug__" : Str)) = false := by decide) (hcd : (n == ("__classdict__" : Str)) = false := by decide) (hg : Gl X "isinstance" := by rfl)
    (hpl : (backTo pos (starEach [(.Name m p2)] X.env)).any (·.1) = false := by rfl) :
    PD X (.Call (.Name "isinstance" p0) [.Name n p1, .Name m p2] [] pos) (tdXf i a (.bool (x.cls == m))) := by
  obtain ⟨c1, c2, _⟩ := F.at_ hx h.nm
  obtain ⟨M, m1, m2, _, _⟩ := F.cl m hm
  exact pd_isX h c2 i (F.kit x.cls hx m hm C M h.nm m2) (pe_glob hgm m1 (v := .ref M) rfl hdm) (fun u r => r) hi hN hv hd hcd hg hpl
theorem pd_isV {X : Cx} {x : XD} {a C : Addr} {oe : Obj} (h : Held X x a oe C) (F : XF X.K X.mg) (hx : x.cls ∈ xNames) (i : Nat) {n : Str} {p0 p1 p2 pos : Pos} (hi : X.mg "isinstance" = none) (hN : X.N[i]? = some n := by rfl) (hgm : Gl X "ValueError" := by rfl)
    (hv : Vis X.env.scope n := by first | exact Or.inl rfl | exact Or.inr (Or.inl rfl) | exact Or.inr (Or.inr rfl)) (hd : (n == ("__debug__" : Str)) = false := by decide) (hcd : (n == ("__classdict__" : Str)) = false := by decide) (hg : Gl X "isinstance" := by rfl)
    (hpl : (backTo pos (starEach [(.Name "ValueError" p2)] X.env)).any (·.1) = false := by rfl) :
    PD X (.Call (.Name "isinstance" p0) [.Name n p1, .Name "ValueError" p2] [] pos) (tdXf i a (.bool true)) := by
  obtain ⟨c1, c2, _⟩ := F.at_ hx h.nm
  exact pd_isX h c2 i (F.kitV x.cls hx C h.nm) (pe_bty hgm F.ve PyProof.Rows.Boot.«ValueError») (fun u r => r) hi hN hv hd hcd hg hpl
def tdXg (i : Nat) (a : Addr) (x : XD) (f : Str) : TD := fun Γ Q => Γ[i]? = some (.raw (.ref a)) ∧ ∃ d, x.fs.lookup f = some d ∧ Q (.fz d) Γ
theorem pd_xg {X : Cx} {x : XD} {a C : Addr} {oe : Obj} (h : Held X x a oe C) (F : XF X.K X.mg) (hx : x.cls ∈ xNames) (i : Nat) {n f : Str} {p1 pos : Pos} (hf : f ∈ xFields := by decide) (hN : X.N[i]? = some n := by rfl)
    (hv : Vis X.env.scope n := by first | exact Or.inl rfl | exact Or.inr (Or.inl rfl) | exact Or.inr (Or.inr rfl)) (hd : (n == ("__debug__" : Str)) = false := by decide) (hcd : (n == ("__classdict__" : Str)) = false := by decide)
    (hb : attributeBase (.Name n p1) f X.env (eval (.Name n p1) X.env) = eval (.Name n p1) X.env := by rfl) : PD X (.Attribute (.Name n p1) f pos) (tdXg i a x f) := by
  obtain ⟨c1, c2, c3⟩ := F.at_ hx h.nm
  refine ⟨⟨fun pins s σ H Q I ⟨Γ, g, e, d, hd', q⟩ => ?_⟩, fun Γ Q Q' hq ⟨e, d, hd', q⟩ => ⟨e, d, hd', hq _ _ q⟩⟩
  exact (pd_xf h c2 i (c3 f hf) hd' hN hv hd hcd hb).run.run pins s σ H Q I ⟨Γ, g, e, q⟩
end DL
/-! DL36: the law's own def, its table of code objects in hand. -/
namespace DL
open PySem PySem.Spec PyProof.Rows L2
section
variable {P : Program} {w : World} {K : PySem.W.Frag} {mg : Str → Option Value} {base : Heap}
/-- as fnd, the code object told -/
theorem fndT {x qual : Str} {st : Stmt} {f : Addr} {fd : FuncData} {N ps : List Str} {k : Nat} {sp : SpD} (F : Fun K x qual st f fd) (S : FnScope N ps (defScope st)) (n : Nat) (hn : ps.length = n) (ms : MonoSp sp)
    (hbody : ∀ (X : Cx) (cdv : Value) (A : Around) (outer : List Env) (s : Shared) (H : Hp) (E : XK), X = (cxOf CX0 P w K mg base N qual (defScope st) f cdv A outer s H E).nox → Room k X.A → fd.code = cdv →
      ∃ t, PDSs X (defBody st) t ∧ ∀ Γ Q E', Γ.length = n → sp Γ Q E' → t (fin Γ Q) (Γ ++ List.replicate (N.length - n) .no)) : FnOk P w K mg base CX0 (k + 1) f fd ps (liftSp K n sp) := by
  obtain ⟨oc, od, kV, doc, pm, an, cdv, ct, osl, rfl, lk, hcd⟩ := F.ex
  refine fn_of lk hcd S (fun vs H Q E h => h.1.trans hn.symm) fun A outer s H vs Q E hr h => ?_
  obtain ⟨hl, Γ, g, q⟩ := h
  obtain ⟨t, ht, rd⟩ := hbody _ cdv A outer s H E rfl hr rfl
  have hL : Γ.length = n := by rw [g.len, List.length_map, hl]
  refine ⟨_, (ht.run (fun c d _ H' => False) LamX.takes0).nox, ?_⟩
  refine ⟨_, ?_, ht.mono _ _ _ (fin_le (E := fun _ _ _ => False) g) (ht.mono _ _ _ ?_ (rd Γ _ _ hL q))⟩
  · have := rg_start (N := N) g
    rw [hL] at this; exact this
  · exact ⟨fun _ z => z, fun _ _ z => z, fun _ z => z, fun _ z => z, fun _ _ z => z.elim⟩
end
end DL
/-! DL37: the facts of the program's exceptions, put together from what the top has written. -/
namespace DL
open PySem PySem.Spec PyProof.Rows L2
def AllP {α : Type} (P : α → Prop) : List α → Prop
  | [] => True
  | x :: r => P x ∧ AllP P r
theorem AllP.get {α : Type} {P : α → Prop} : ∀ {l : List α}, AllP P l → ∀ x ∈ l, P x
  | [], _, x, h => by cases h
  | y :: r, h, x, hx => by
    rcases List.mem_cons.mp hx with e | hx
    · rw [e]; exact h.1
    · exact AllP.get h.2 x hx
/-- what is written of one class -/
structure XOne (K : PySem.W.Frag) (n : Str) (C : Addr) : Prop where
  ns : PySem.W.nsIn K mainGlobals n = some (some (.ref C))
  hg : PySem.W.findIn K (.ref C) "__getattribute__" = some (some (.builtin "BaseException.__getattribute__"))
  hk : PySem.W.findIn K (.ref C) "__getattr__" = some none
  hs : PySem.W.subIn K (.ref C) (.type "BaseException") = some true
  hd : PySem.W.hasDictIn K C = true
  ha : PySem.W.findIn K (.ref C) "__class__" = some (some (.builtin "object.__class__"))
  hm : PySem.W.mroIn K C (.type "object") = some true
  ty : PySem.W.typeIn K (.ref C) = some (.type "type")
  f1 : PySem.W.findIn K (.ref C) "at" = some none
  f2 : PySem.W.findIn K (.ref C) "why" = some none
  f3 : PySem.W.findIn K (.ref C) "deed" = some none
  f4 : PySem.W.findIn K (.ref C) "row" = some none
  sv : PySem.W.subIn K (.ref C) (.type "ValueError") = some true
theorem kit_sub {K : PySem.W.Frag} {c C : Addr} {b : Bool} (hd : PySem.W.hasDictIn K C = true) (ty : PySem.W.typeIn K (.ref C) = some (.type "type")) (h : PySem.W.subIn K (.ref c) (.ref C) = some b) (hc : PySem.W.subIn K (.ref c) (.ref c) = some true) : PySem.W.kitOne K (.ref c) (.ref C) = some b := by
  unfold PySem.W.kitOne
  by_cases e : ((Value.ref c : Value) == .ref C) = true
  · rw [if_pos e]
    have : c = C := Value.ref.inj (beq_iff_eq.mp e)
    subst this
    rw [hc] at h
    exact h
  · rw [if_neg e]
    show (if ((PySem.W.clsIn K C).isSome && PySem.W.typeIn K (.ref C) == some (.type "type")) = true then PySem.W.subIn K (.ref c) (.ref C) else none) = some b
    rw [if_pos (by rw [PySem.W.clsSome hd, ty]; rfl)]
    exact h
theorem XF.of {K : PySem.W.Frag} {h : Heap} {mg : Str → Option Value} (X : K.In h) (G : h.Ns mainGlobals mg) {W : Addr} {L : List (Str × Addr)} (hL : L.map (·.1) = xNames) (h1 : AllP (fun p => XOne K p.1 p.2) L) (h2 : AllP (fun p => AllP (fun q => PySem.W.subIn K (.ref p.2) (.ref q.2) = some (p.1 == q.1)) L) L)
    (h3 : AllP (fun p => PySem.W.subIn K (.ref p.2) (.ref W) = some true) L) (hn : PySem.W.specialIn K (.builtin "object.__class__") "__get__" = some (some (.builtin "getset_descriptor.__get__"))) (ht : PySem.W.takesIn K (.builtin "object.__class__") = some true)
    (ve : PySem.W.nsIn K mainGlobals "ValueError" = some none) (w1 : PySem.W.nsIn K mainGlobals "WishError" = some (some (.ref W))) (w2 : PySem.W.subIn K (.ref W) (.type "BaseException") = some true) (w3 : PySem.W.hasDictIn K W = true) (w4 : PySem.W.typeIn K (.ref W) = some (.type "type")) : XF K mg := by
  have get : ∀ n ∈ xNames, ∃ p ∈ L, p.1 = n := fun n hn => by
    rw [← hL, List.mem_map] at hn
    exact hn
  have two : ∀ p ∈ L, ∀ q ∈ L, PySem.W.subIn K (.ref p.2) (.ref q.2) = some (p.1 == q.1) := fun p hp q hq => (h2.get p hp).get q hq
  have same : ∀ p ∈ L, ∀ c, PySem.W.nsIn K mainGlobals p.1 = some (some (.ref c)) → c = p.2 := fun p hp c e => by
    have := (h1.get p hp).ns
    rw [e] at this
    cases this
    rfl
  refine ⟨fun n hn' => ?_, fun n hn' m hm c C e1 e2 => ?_, fun n hn' c e => ?_, fun n hn' m hm c C e1 e2 => ?_, fun n hn' c C e1 e2 => ?_, PySem.W.mg_none_of X G ve, W, PySem.W.mg_of X G w1, w1⟩
  · obtain ⟨p, hp, rfl⟩ := get n hn'
    have o := h1.get p hp
    refine ⟨p.2, PySem.W.mg_of X G o.ns, o.ns, ⟨o.hg, o.hk, o.hs, o.hd, o.ha, hn, ht, o.hm⟩, fun f hf => ?_⟩
    simp only [xFields, List.mem_cons, List.not_mem_nil, or_false] at hf
    rcases hf with rfl | rfl | rfl | rfl
    · exact o.f1
    · exact o.f2
    · exact o.f3
    · exact o.f4
  · obtain ⟨p, hp, rfl⟩ := get n hn'
    obtain ⟨q, hq, rfl⟩ := get m hm
    rw [same p hp c e1, same q hq C e2]
    have o := h1.get q hq
    exact kit_sub o.hd o.ty (two p hp q hq) (by rw [two p hp p hp, beq_self_eq_true])
  · obtain ⟨p, hp, rfl⟩ := get n hn'
    rw [same p hp c e]
    show (if _ = true then some true else _) = some true
    split
    · rfl
    · show (if PySem.W.kitMeta "ValueError" = true then PySem.W.subIn K (.ref p.2) (.type "ValueError") else none) = some true
      rw [if_pos (by decide +kernel)]
      exact (h1.get p hp).sv
  · obtain ⟨p, hp, rfl⟩ := get n hn'
    obtain ⟨q, hq, rfl⟩ := get m hm
    have ep := (h1.get p hp).ns
    rw [e1] at ep
    cases ep
    rw [same q hq C e2]
    have o := h1.get q hq
    exact PySem.W.exm_ref o.hs o.hd o.ty (two p hp q hq)
  · obtain ⟨p, hp, rfl⟩ := get n hn'
    have ep := (h1.get p hp).ns
    rw [e1] at ep
    cases ep
    rw [w1] at e2
    cases e2
    exact PySem.W.exm_ref w2 w3 w4 (h3.get p hp)
/-- what is written of a class with an __init__ of its own -/
theorem ExcI.of {P : Program} {w : World} {K : PySem.W.Frag} {h : Heap} {mg : Str → Option Value} {base : Heap} (X : K.In h) (G : h.Ns mainGlobals mg) {x : Str} {ps : List Str} {sp : Sp} {C fI : Addr} {fd : FuncData} (o : XOne K x C)
    {nm q : Str} {N : Addr} {bs bm : List Value} {sn : List Str} {sub : List Value} {ab : Bool} {col : Option Bool} {dd : Option Addr} {k0 k1 k2 k3 k5 : Option Value} (lk : K.lookup C = some (excClassObj nm q C N bs bm true sn sub ab col dd k0 k1 k2 k3 k5 "ValueError.__new__")) (rf : PySem.HandSPX.refsVE bm = true)
    (sa : PySem.W.findIn K (.ref C) "__setattr__" = some (some (.builtin "object.__setattr__"))) (kC : PySem.W.keepIn K (.ref C) = true) (iC : PySem.W.findIn K (.ref C) "__init__" = some (some (.ref fI))) (tI : PySem.W.typeIn K (.ref fI) = some (.type "function"))
    (F : FnOk P w K mg base CX0 1 fI fd ps sp) (hb : L2.Binds K fd ps []) : ExcI P w K mg base x ps sp := by
  refine ⟨⟨C, fI, fd, ⟨⟨nm, q, N, bs, bm, sn, sub, ab, col, dd, k0, k1, k2, k3, k5, lk, rf⟩, sa, o.hs, o.ty, kC⟩, iC, tI, F, hb, PySem.W.mg_of X G o.ns, o.ns⟩, fun C' e f hf => ?_⟩
  have := o.ns
  rw [e] at this
  cases this
  simp only [List.mem_cons, List.not_mem_nil, or_false] at hf
  rcases hf with rfl | rfl | rfl | rfl
  · exact o.f1
  · exact o.f2
  · exact o.f3
  · exact o.f4
theorem ExcT.of {K : PySem.W.Frag} {h : Heap} {mg : Str → Option Value} (X : K.In h) (G : h.Ns mainGlobals mg) {x : Str} {C : Addr} (o : XOne K x C) (xc : PySem.W.excIn K C [.type "ValueError", .type "Exception", .type "BaseException", .type "object"] "ValueError.__new__" = true) (kC : PySem.W.keepIn K (.ref C) = true) : ExcT K mg x :=
  ⟨⟨C, _, _, _, _, F.excBase_ValueError, xc, PySem.W.mg_of X G o.ns, o.ns, kC, o.hs, o.ty⟩⟩
end DL
/-! DL38: as DL34, a lambda whose one parameter has a number as its default, and is not asked. -/
namespace DL
open PySem PySem.Spec PyProof.Rows L2
/-- its names: its own parameters stand for nothing of the frame around -/
structure LamS1 (N : List Str) (sc scope : Scope) : Prop where
  kind : scope.kind = .function
  co : scope.isCoroutine = false
  gen : scope.isGenerator = false
  own : ∀ y ∈ scope.names, y.2 ≠ .cell ∧ (y.2 = .local → y.1 ∉ N)
  free : ∀ y ∈ scope.names, y.2 = .free → sc.names.lookup y.1 = some .cell ∨ sc.names.lookup y.1 = some .free
def lamS1B (N : List Str) (sc scope : Scope) : Bool :=
  decide (scope.kind = .function) && !scope.isCoroutine && !scope.isGenerator && scope.names.all fun y => !decide (y.2 = .cell) && (!decide (y.2 = .local) || !decide (y.1 ∈ N)) && (!decide (y.2 = .free) || decide (sc.names.lookup y.1 = some .cell) || decide (sc.names.lookup y.1 = some .free))
theorem lamS1_by {N : List Str} {sc scope : Scope} (h : lamS1B N sc scope = true) : LamS1 N sc scope := by
  unfold lamS1B at h
  simp only [Bool.and_eq_true, Bool.or_eq_true, Bool.not_eq_true', decide_eq_true_eq, decide_eq_false_iff_not, List.all_eq_true] at h
  obtain ⟨⟨⟨h1, h2⟩, h3⟩, h4⟩ := h
  refine ⟨h1, h2, h3, fun y hy => ⟨(h4 y hy).1.1, fun e => ?_⟩, fun y hy e => ?_⟩
  · rcases (h4 y hy).1.2 with z | z
    · exact absurd e z
    · exact z
  · rcases (h4 y hy).2 with (z | z) | z
    · exact absurd e z
    · exact .inl z
    · exact .inr z
theorem LamS1.has {X : Cx} {scope : Scope} (L : LamS1 X.N X.env.scope scope) (ok : X.Ok) : ∀ y ∈ scope.names, y.2 = .free → ∃ c, X.env.cells.lookup y.1 = some c := fun y hy e => by
  rcases L.free y hy e with k | k
  · exact ok.has _ (.inl k)
  · exact ok.has _ (.inr k)
section
variable {X : Cx} {pins : List (Addr × Obj)} {σ : L2.St} {H : Hp} {s : Shared}
theorem lam_makeD {c P : Addr} {params : Arguments} {z : Int} {j : Nat} {dp : Pos} {body : Expr} {scope : Scope} {pos : Pos} {E : Value → Shared → Prop} {Q : Value → Shared → Prop} (I : Inv X pins σ H s) (TB : LamX.TabB X.base X.mg c P) (hcode : X.env.code = .ref c)
    (hT : LamX.TabS H P (X.env.qual ++ "<lambda>")) (hd : params.defaults = [.Constant (.int z) j dp]) (hk0 : params.kw_defaults = []) (hfree : ∀ y ∈ scope.names, y.2 = .free → ∃ c, X.env.cells.lookup y.1 = some c)
    (hE : ∀ e s', X.xe e s' → E e s')
    (h : ∀ (f c' T0 : Addr) (u pm ctv doc : Value) (H1 : Hp) (s' : Shared), Inv X pins σ H1 s' → (∀ b o, b ≠ P → H b = some o → H1 b = some o) → LamX.TabS H1 P (X.env.qual ++ "<lambda>") →
      s'.heap.get? f = some (PySem.W.kdv_obj "<lambda>" (X.env.qual ++ "<lambda>") params (.expr body) scope (cloFrom X.env.cells scope.names []) (.ref T0) doc pm c' ctv) → H1 f = none → f ∉ frs X.stack → s'.heap.get? T0 = some (PySem.W.kdv_tup [u]) → H1 T0 = none → T0 ∉ frs X.stack → H1 c' = some (LamX.CodeO c' (X.env.qual ++ "<lambda>")) → Q (.ref f) s') :
    wpAny (model X.prog X.w) X.A (eval (.Lambda params body scope pos) X.env) Q E s := by
  refine PySem.W.kdv_lam (by rw [hd]; rfl) hk0 ?_
  rw [hd]
  refine PySem.W.kdv_all1 (wpAny_mono ((pe_int (X := X)).run pins s σ H (fun v H1 => v = .int z ∧ H1 = H) I ⟨rfl, rfl⟩) (fun u s0 hq => ?_) hE)
  obtain ⟨v, H0, I0, rv, ev, eh⟩ := hq
  subst eh
  refine PySem.W.kdv_all0 ?_
  rw [makeFunction_eq]
  simp only [List.zip_nil_right, List.filterMap_nil, List.isEmpty_nil, if_true, pure_bind, List.isEmpty_cons, Bool.false_eq_true, if_false]
  have nofr : ∀ {s : Shared} {H : Hp}, Inv X pins σ H s → ∀ f, s.heap.objs.size ≤ f → f ∉ frs X.stack := fun {s H} I f hf z => by
    rcases List.mem_cons.mp (I.stkSub _ z) with e | e
    · have h1 := I.lt
      rw [← e] at h1
      exact Nat.lt_irrefl _ (Nat.lt_of_lt_of_le h1 hf)
    · exact I.nofs hf e
  refine wpAny_bind (wpAny_newTextTuple ?_)
  have nT : H0 s0.heap.objs.size = none := I0.hok.fresh (Nat.le_refl _)
  have fT := nofr I0 _ (Nat.le_refl _)
  have gT : (s0.heap.push (PySem.W.kdv_tup [u])).get? s0.heap.objs.size = some (PySem.W.kdv_tup [u]) := Heap.get?_push_size _ rfl
  have I1 : Inv X pins σ H0 { s0 with heap := s0.heap.push (PySem.W.kdv_tup [u]) } := I0.kept (t' := s0.toks) fun b o e => Heap.get?_push_of_some _ e
  generalize hs1 : ({ s0 with heap := s0.heap.push (PySem.W.kdv_tup [u]) } : Shared) = s1 at I1
  have gT1 : s1.heap.get? s0.heap.objs.size = some (PySem.W.kdv_tup [u]) := by rw [← hs1]; exact gT
  show wpAny _ _ (makeTail _ _ _ _ _ _ (.ref s0.heap.objs.size) _ _ _ _) Q E _
  obtain ⟨ps, hP, ht, ha⟩ := hT
  have bP : s1.heap.BuiltinsAt X.mg P := TB.bm.keeps I1.bk
  have hP' : s1.heap.get? P = some { cls := .none, data := .fields ps } := I1.hok P _ hP
  cases hc : codeAmong pos ps.toList with
  | none =>
    refine PySem.W.kdv_makeTail (mg := X.mg) (c := c) (P := P) (ps := ps) (closure_ok hfree) I1.ok.glob (I1.mod.glob.keeps I1.bk) hcode (TB.code.keeps I1.bk) hP' ht hc TB.gP bP fun c' ctv doc h' tk hx hge hlt hrec htb => ?_
    obtain ⟨c2, oc, vs, t, e2, hoc, hd', hv⟩ := hrec
    cases e2
    have hsz : s1.heap.objs.size ≤ h'.objs.size := Nat.le_trans hge (Nat.le_of_lt hlt)
    have nC : H0 c' = none := I1.hok.fresh hge
    have I2 := LamX.inv_table (t' := tk) (more := #[rawInt pos.line, rawInt pos.col, .ref c']) (h' := h'.push (PySem.W.kdv_obj "<lambda>" (X.env.qual ++ "<lambda>") params (.expr body) scope (cloFrom X.env.cells scope.names []) (.ref s0.heap.objs.size) doc ((X.mg "__name__").getD .none) c' ctv)) I1 hP
      (fun b o hb e => Heap.get?_push_of_some _ (hx b o hb e)) (Heap.get?_push_of_some _ htb) hge ⟨oc, vs, t, Heap.get?_push_of_some _ hoc, hd', hv⟩
    have hEx : ∀ b o, b ≠ P → H0 b = some o → upd (upd H0 P (.tbl (ps ++ #[rawInt pos.line, rawInt pos.col, .ref c']))) c' (LamX.CodeO c' (X.env.qual ++ "<lambda>")) b = some o := fun b o nb e => by
      rw [upd_ne (ne_of_none e nC), upd_ne nb]
      exact e
    have eL : (ps ++ #[rawInt pos.line, rawInt pos.col, .ref c']).toList = ps.toList ++ [rawInt pos.line, rawInt pos.col, .ref c'] := by simp
    have nTP : s0.heap.objs.size ≠ P := fun z => by rw [z, hP] at nT; cases nT
    have nTc : s0.heap.objs.size ≠ c' := Nat.ne_of_lt (Nat.lt_of_lt_of_le (Heap.lt_size gT1) hge)
    refine h h'.objs.size c' s0.heap.objs.size u ((X.mg "__name__").getD .none) ctv doc _ _ I2 hEx ?_ (Heap.get?_push_size _ rfl) ?_ (nofr I1 _ hsz) (Heap.get?_push_of_some _ (hx _ _ nTP gT1)) ?_ fT upd_same
    · refine ⟨_, by rw [upd_ne (ne_of_none hP nC), upd_same], by rw [eL]; exact PySem.TriplesOk_snoc _ _ _ _ ht, fun p' cv hcv => ?_⟩
      rw [eL] at hcv
      rcases LamX.among_app _ ht hcv with z | z
      · obtain ⟨c0, e1, e2⟩ := ha p' cv z
        exact ⟨c0, e1, hEx _ _ (fun q => by rw [q, hP] at e2; have z2 : HO.tbl _ = HO.ext _ := Option.some.inj e2; cases z2) e2⟩
      · exact ⟨c', z, upd_same⟩
    · have n1 : h'.objs.size ≠ c' := Nat.ne_of_gt hlt
      have n2 : h'.objs.size ≠ P := Nat.ne_of_gt (Nat.lt_of_lt_of_le (Heap.lt_size hP') hsz)
      rw [upd_ne n1, upd_ne n2]
      exact I1.hok.fresh hsz
    · rw [upd_ne nTc, upd_ne nTP]
      exact nT
  | some cv =>
    obtain ⟨c', e, hco⟩ := ha pos cv hc
    subst e
    refine PySem.W.kdv_makeTailHit (mg := X.mg) (c := c) (P := P) (ps := ps) (closure_ok hfree) I1.ok.glob (I1.mod.glob.keeps I1.bk) hcode (TB.code.keeps I1.bk) hP' ht hc bP fun ctv doc h' tk hx hsz => ?_
    have I2 : Inv X pins σ H0 { s1 with heap := h'.push (PySem.W.kdv_obj "<lambda>" (X.env.qual ++ "<lambda>") params (.expr body) scope (cloFrom X.env.cells scope.names []) (.ref s0.heap.objs.size) doc ((X.mg "__name__").getD .none) c' ctv), toks := tk } := I1.kept fun b o e => Heap.get?_push_of_some _ (hx b o e)
    exact h h'.objs.size c' s0.heap.objs.size u ((X.mg "__name__").getD .none) ctv doc H0 _ I2 (fun _ _ _ e => e) ⟨ps, hP, ht, ha⟩ (Heap.get?_push_size _ rfl) (I1.hok.fresh hsz) (nofr I1 _ hsz) (Heap.get?_push_of_some _ (hx _ _ gT1)) nT fT hco
/-- the frame of such a lambda (as the hand layer's lam_start2) -/
theorem lam_start3 {A : Around} {outer : List Env} {E : XK} {scope : Scope} {f c' : Addr} {h₁ : Heap} {tk : Nat} {HZ : Hp} {s1 : Shared} {binds : List (Str × Value)} (I : Inv X pins σ H s) (L : LamS1 X.N X.env.scope scope) (e0 : Env0 X.prog X.w X.K X.mg X.base A outer s1 HZ) (hd : A.handled = none)
    (un : Un (frs X.stack) [] H HZ s.heap s1.heap) (hns : h₁.Ns s1.heap.objs.size fun y => binds.reverse.lookup y) (kp : ∀ b o, s1.heap.get? b = some o → h₁.get? b = some o) :
    Inv (LamX.lamCx X A outer s1 HZ E scope f c') [] σ HZ { s1 with heap := h₁, toks := tk } := by
  have hfree := L.has I.ok
  have cm : ∀ {y c}, (cloFrom X.env.cells scope.names []).lookup y = some c → X.env.cells.lookup y = some c := fun {y c} e => by
    rcases cloFrom_mem (PySem.mem_of_lookup e) with hm | ⟨h1, h2⟩
    · cases hm
    · obtain ⟨c1, hc⟩ := hfree _ h1 rfl
      have hc : X.env.cells.lookup y = some c1 := hc
      have e2 : c = c1 := by
        rw [h2, hc] <;> rfl
      rw [e2]
      exact hc
  have look : ∀ {y}, scope.names.lookup y = some .free → ∃ c, (cloFrom X.env.cells scope.names []).lookup y = some c := fun {y} hl => by
    have hy : (y, NameKind.free) ∈ scope.names := PySem.mem_of_lookup hl
    exact mem_lookup (cloFrom_has (cells := X.env.cells) (acc := []) hy)
  have cellK : ∀ {c : Addr} {v : Option Value}, H c = none → s.heap.IsCell c v → h₁.IsCell c v := fun {c v} n ⟨o, ho, hd⟩ => by
    obtain ⟨sl, q⟩ := un.any ho n (by simp)
    exact ⟨_, kp _ _ q, hd⟩
  have noA : ∀ b : Addr, b ∉ (LamX.lamCx X A outer s1 HZ E scope f c').ex := fun b z => absurd (show b ∈ ([] : List Addr) from z) (by simp)
  refine ⟨⟨e0.mod, L.kind, rfl, rfl, Nat.le_refl _, fun y z c e1 e2 => I.ok.inj y z c (cm e1) (cm e2), fun y hy => ?_, fun y c z _ => ?_, fun _ => hd, Around.frames_deeper e0.frames, .inr ⟨rfl, rfl⟩, fun b z => absurd z (noA b), e0.bs, e0.bsz, fun b _ _ => noA b,
      fun b z => absurd z (noA b), e0.funs, e0.frf⟩,
    rfl, e0.bare, Un.kept kp, ⟨_, hns, fun i y v e1 e2 e3 => ?_⟩, fun y c e => ?_, e0.hok.fresh (Nat.le_refl _), fun y c e => ?_, fun q hq => absurd (show q ∈ ([] : List (Addr × Obj)) ++ [] from hq) (by simp), e0.hok.kept kp, I.len⟩
  · have hy : scope.names.lookup y = some .cell ∨ scope.names.lookup y = some .free := hy
    rcases hy with hy | hy
    · exact absurd rfl (L.own _ (PySem.mem_of_lookup hy)).1
    · exact look hy
  · have z : false = true := z
    cases z
  · have e3 : Vis scope y := e3
    rcases e3 with k | k | k
    · exact absurd (List.mem_of_getElem? (show X.N[i]? = some y from e1)) ((L.own _ (PySem.mem_of_lookup k)).2 rfl)
    · exact absurd rfl (L.own _ (PySem.mem_of_lookup k)).1
    · obtain ⟨m, hn, hl⟩ := I.loc
      have hvis : Vis X.env.scope y := (L.free _ (PySem.mem_of_lookup k) rfl).elim (fun k => .inr (.inl k)) (fun k => .inr (.inr k))
      obtain ⟨w', r, q⟩ := hl i y v e1 e2 hvis
      obtain ⟨c2, h2⟩ := look k
      refine ⟨w', r, .inr ⟨.inr k, c2, h2, ?_⟩⟩
      have c1 := cm h2
      rcases q with ⟨k', _⟩ | ⟨_, c3, e', z⟩
      · have k' : X.env.scope.names.lookup y = some .local := k'
        rcases L.free _ (PySem.mem_of_lookup k) rfl with k2 | k2 <;> rw [show X.env.scope.names.lookup y = _ from k2] at k' <;> cases k'
      · rw [c1] at e'
        cases e'
        exact cellK (I.freeC y _ c1) z
  · obtain ⟨w', z⟩ := I.cell y c (cm e)
    exact ⟨w', cellK (I.freeC y c (cm e)) z⟩
  · obtain ⟨v, o, ho, hd⟩ := I.cell y c (cm e)
    exact un.free c o ho (I.freeC y c (cm e)) (by simp)
/-- x(), in the def that got the lambda (as the hand layer's pe_act) -/
theorem pe_actD {CXg : CXT} {Eg : XK} {Ng : List Str} {qg : Str} {sg : Scope} {g f c' T0 : Addr} {cdg pm ctv doc u : Value} {params : Arguments} {body : Expr} {scope : Scope} {k i : Nat} {a ap : Str} {pn : List (Addr × Obj)} {xe : Value → Shared → Prop} {W : WX} {E : XK} {tb : TE} {p1 p2 : Pos}
    (I : Inv X pins σ H s) (L : LamS1 X.N X.env.scope scope) (hf : s.heap.get? f = some (PySem.W.kdv_obj "<lambda>" (X.env.qual ++ "<lambda>") params (.expr body) scope (cloFrom X.env.cells scope.names []) (.ref T0) doc pm c' ctv)) (hfn : H f = none) (hfr : f ∉ frs X.stack)
    (hT : s.heap.get? T0 = some (PySem.W.kdv_tup [u])) (hTn : H T0 = none) (hTf : T0 ∉ frs X.stack)
    (hbind : ∀ s' : Shared, s'.heap.get? T0 = some (PySem.W.kdv_tup [u]) → BindsTo s' (PySem.W.kdv_fn "<lambda>" (X.env.qual ++ "<lambda>") params (.expr body) scope (cloFrom X.env.cells scope.names []) (.ref T0) doc pm (.ref c') ctv) ⟨[], []⟩ [(ap, u)]) (hap : scope.names.lookup ap = some .local)
    (tk : Takes ((cxOf CXg X.prog X.w X.K X.mg X.base Ng qg sg g cdg X.A X.stack s H Eg).tr pn xe) W) (hW : ∀ cls d σ' H', E cls d H' → W cls d σ' H') (hr : Room (k + 1) (X.A.deeper (envOfC qg sg s.heap.objs.size g cdg)))
    (hbody : ∀ (A : Around) (outer : List Env) (s : Shared) (H : Hp), Room k (A.deeper (LamX.lamEnv X scope s.heap.objs.size f c')) → PE (LamX.lamCx X A outer s H E scope f c') body tb)
    (hN : Ng[i]? = some a) (hv : Vis sg a) (hd : (a == ("__debug__" : Str)) = false := by decide) (hcd : (a == ("__classdict__" : Str)) = false := by decide) :
    PE ((cxOf CXg X.prog X.w X.K X.mg X.base Ng qg sg g cdg X.A X.stack s H Eg).tr pn xe) (.Call (.Name a p1) [] [] p2)
      (fun σZ HZ Q => σZ[i]? = some (some (.ref f)) ∧ HZ c' = some (LamX.CodeO c' (X.env.qual ++ "<lambda>")) ∧ tb σ HZ Q) := by
  refine ⟨fun pinsZ sZ σZ HZ Q IZ h => ?_⟩
  obtain ⟨hs, hc, ht⟩ := h
  refine wpAny_Call_Name_kw (thn ((pe_var (pos := p1) (i := i) hN hv hd hcd).run pinsZ sZ σZ HZ (fun v H1 => v = .ref f ∧ H1 = HZ) IZ ⟨.ref f, hs, rfl, rfl⟩) fun u1 s1 ⟨v, H1, I1, r1, q1⟩ => ?_)
  obtain ⟨ev, eH⟩ := q1
  subst ev
  rw [eH] at I1
  obtain rfl : u1 = Value.ref f := r1
  have of1 : s1.heap.get? f = some (PySem.W.kdv_obj "<lambda>" (X.env.qual ++ "<lambda>") params (.expr body) scope (cloFrom X.env.cells scope.names []) (.ref T0) doc pm c' ctv) := I1.base.keep f _ hf hfn hfr (fun z => nomatch (show f ∈ ([] : List Addr) from z))
  have oT1 : s1.heap.get? T0 = some (PySem.W.kdv_tup [u]) := I1.base.keep T0 _ hT hTn hTf (fun z => nomatch (show T0 ∈ ([] : List Addr) from z))
  refine PySem.W.callWith_F0 ⟨_, _, _, _, of1⟩ ?_
  have un : Un (frs X.stack) [] H HZ s.heap s1.heap := I1.base
  obtain ⟨⟨oc, vs, t, hoc, hdc, hvc⟩, _, _⟩ := I1.hok c' _ hc
  have rc : codeAny (model X.prog X.w) (X.A.deeper (envOfC qg sg s.heap.objs.size g cdg)) (.call (.ref f) ⟨[], []⟩) (CR (L2.CX X.prog X.w) (envOfC qg sg s.heap.objs.size g cdg :: X.stack) X.prog X.w HZ s1 Q E) s1 := by
    refine PySem.W.kla_callFunE hr.depth of1 rfl L.co L.gen rfl ⟨c', oc, vs, t, rfl, hoc, hdc, hvc⟩ ?_
    refine hbind s1 oT1 _ _ _ _ ?_
    refine wpAny_newFunctionEnv (fun y hy => (L.own y hy).1) (fun y hy => by rw [List.mem_singleton.mp hy]; exact hap) (fun h₁ hns hsb => ⟨I1.nolimit.fresh _ hsb, ?_⟩) L.kind
    show codeAny _ _ (.expr body (LamX.lamEnv X scope s1.heap.objs.size f c')) _ _
    have kp : ∀ b o, s1.heap.get? b = some o → h₁.get? b = some o := fun b o e => hsb.extBut b o (Nat.ne_of_lt (Heap.lt_size e)) (Heap.get?_push_of_some _ e)
    have J := lam_start3 (tk := s1.toks + ([(ap, u)] : List (Str × Value)).length) (E := E) (A := X.A.deeper (envOfC qg sg s.heap.objs.size g cdg)) (f := f) (c' := c') I L I1.env0 hr.hd un hns kp
    refine PySem.W.kla_codeExpr (wpAny_mono ((hbody _ _ s1 HZ (hr.deeper _)).run [] _ _ HZ Q J ht) (fun v s' hq => ?_) fun e s' hq => hq)
    obtain ⟨w', H', J', rv, q⟩ := hq
    exact ⟨w', H', J'.os, J'.bare, J'.base, J'.hok, rv, q⟩
  have hx : Passes (L2.CX X.prog X.w) ((cxOf CXg X.prog X.w X.K X.mg X.base Ng qg sg g cdg X.A X.stack s H Eg).tr pn xe) E := passes_call tk hW
  refine wpAny_call (codeAny_mono rc fun r s' hq => ?_)
  cases r with
  | error e => exact hx pinsZ σZ HZ s1 e s' I1 hq
  | ok fl =>
    cases fl with
    | ret u => exact I1.after hq
    | next => exact False.elim hq
    | brk => exact False.elim hq
    | cont => exact False.elim hq
end
theorem pd_wordD {X : Cx} {p lpos pos dp : Pos} {params : Arguments} {z : Int} {j : Nat} {body : Expr} {scope : Scope} {tb : TXD} {k : Nat} {ap : Str} (Wd : WordOk X.prog X.w X.K X.mg X.base) (hT : ∃ c P, LawTab X.K P ∧ LamX.TabB X.base X.mg c P ∧ X.env.code = .ref c) (hr : Room (k + 4) X.A) (L : LamS1 X.N X.env.scope scope) (hd : params.defaults = [.Constant (.int z) j dp]) (hk0 : params.kw_defaults = [])
    (hbind : ∀ (s' : Shared) (T0 : Addr) (u : Value) (q : Str) (cl : List (Str × Addr)) (doc pm cv ctv : Value), s'.heap.get? T0 = some (PySem.W.kdv_tup [u]) → BindsTo s' (PySem.W.kdv_fn "<lambda>" q params (.expr body) scope cl (.ref T0) doc pm cv ctv) ⟨[], []⟩ [(ap, u)]) (hap : scope.names.lookup ap = some .local)
    (hbody : ∀ (A : Around) (outer : List Env) (s : Shared) (H : Hp) (E : XK) (f c' : Addr), Room k (A.deeper (LamX.lamEnv X scope s.heap.objs.size f c')) → PDX (LamX.lamCx X A outer s H E scope f c') body tb)
    (hg : Gl X "_law_word" := by rfl) (hq : X.env.qual ++ "<lambda>" = lamq := by rfl) : PD X (.Call (.Name "_law_word" p) [.Lambda params body scope lpos] [] pos) (tdWord tb) := by
  have mt : MonoX tb := (hbody X.A X.stack X.s_0 X.H_0 (fun _ _ _ => False) 0 0 ((hr.deeper _).mono (by omega))).mono
  refine ⟨⟨fun pins s σ H Q I ⟨Γ, g, q⟩ => ?_⟩, fun Γ Q Q' h => mt _ _ _ _ _ (fun _ _ => h _ _) fun x Γ' ⟨z1, w, z2, z3⟩ => ⟨z1, w, z2, h _ _ z3⟩⟩
  obtain ⟨gA, pg, bg, sg, dV, kV, doc, pm, cdv, ct, oc, an, od, osl, Ng, a, hm, hk, lk, hcg, hb, Sg, hNg, hva, hd', hcd, hG⟩ := Wd.out
  obtain ⟨c, P, hlt, TB, hcode⟩ := hT
  refine wpAny_Call_Name_kw (ld_glob I hg hm ?_ (by decide))
  refine PySem.W.callWith_K (h₀ := X.base) I.ok.mod.kin hk ?_ (by rfl) (by rfl)
  show wpAny _ _ (spliced ((false, eval (.Lambda params body scope lpos) X.env) :: backTo pos (starEach [] X.env))) _ _ s
  refine Calls.spliced_cons (lam_makeD I TB hcode (by rw [hq]; exact g.tb P hlt) hd hk0 (L.has I.ok) (fun _ _ z => z) fun f c' T0 u pm' ctv doc' H1 s' I1 eN T1 hf hfn hfr hTo hTn hTf hco => ?_)
  refine Calls.spliced_nil ⟨I1.kIn, ?_⟩
  rw [hq] at T1
  have kp : Kept H H1 := kept_table (g.tb P hlt) eN T1
  have a1 : Aft X.K H Γ H1 σ Γ := Aft.kept g kp
  have rc : codeAny (model X.prog X.w) X.A (.call (.ref gA) ⟨[.ref f], []⟩) (CR CX0 X.stack X.prog X.w H1 s' Q E0) s' := by
    refine LamX.run_ofS (N := Ng) (ps := [a]) (us := [.ref f]) (vs := [.ref f]) lk hcg Sg (hr.mono (j := k + 3 + 1) (by omega)) I1.env0 (hb s' [.ref f] I1.kIn rfl) (.cons rfl .nil) rfl fun hr' => ?_
    obtain ⟨t', ht', hq'⟩ := hG X.A X.stack f c' s' H1 Q (fun E H' Q' => liftE X.K (fun c d _ H => E c d H) tb σ H' Q') (hr'.mono (by omega))
      (fun W pn xe E p1 p2 tk hW => by
        have := pe_actD (k := k) (i := 0) (p1 := p1) (p2 := p2) (tb := liftE X.K (fun c d _ H => E c d H) tb) I1 L hf hfn hfr hTo hTn hTf (fun s2 h2 => hbind s2 T0 u _ _ doc' pm' _ ctv h2) hap tk hW (hr'.mono (by omega)) (fun A outer s H hr2 => (hbody A outer s H E f c' hr2).run _ (takes_of rfl rfl rfl rfl)) hNg hva hd' hcd
        rw [hq] at this
        exact this) (by rw [hq] at hco; exact hco) (a1.rg.tb) ⟨Γ, a1.rg, mt _ _ _ _ _ (fun r Γ' z v H' a rr => z .non H' (a1.trans g a) rfl) (fun x Γ' ⟨z1, w, z2, z3⟩ c d H' a xo => ⟨a.rg.tb, x, w, xo, z1, z2, fun v H'' kp2 rp => z3 v H'' ((a1.trans g a).trans g (Aft.kept a.rg kp2)) rp⟩) q⟩
    exact ⟨t', ht'.nox, hq'⟩
  refine wpAny_call (codeAny_mono rc fun r s2 hq => ?_)
  cases r with
  | error e => exact (show False from hq).elim
  | ok fl =>
    cases fl with
    | ret u => exact I1.after hq
    | next => exact False.elim hq
    | brk => exact False.elim hq
    | cont => exact False.elim hq
end DL
/-! DL39: methods that look at a list of ints, the list given by any expression: count, index. -/
namespace DL
open PySem PySem.Spec PyProof.Rows L2
structure LmD (X : Cx) (id : String) (g : G2) : Prop where
  ok : ∃ r, MtR X id r ∧ ∀ (H : Hp) (d e : D) (v u : V) (Q : VK), RepN X.K H d v → RepN X.K H e u → g d e (fun z => ∀ w H', Same H H' → RRes X.K H H' w z → Q w H') → r v [u] H Q
  mono : ∀ d e (k k' : R → Prop), (∀ z, k z → k' z) → g d e k → g d e k'
def isL : D → Prop
  | .list _ => True
  | _ => False
def tdLm (g : G2) (ta : TD) (t : TAD) : TD := fun Γ Q => ta Γ fun x Γ1 => dat Γ1 x isL ∧ t Γ1 fun rs Γ2 => match rs with
  | [y] => dat Γ2 x fun d => dat Γ2 y fun e => g d e (rq Γ2 Q)
  | _ => False
section
variable {X : Cx} {id : String} {name : Str} {g : G2} {o e : Expr} {ta : TD} {t : TAD} {apos cpos : Pos}
theorem tdLm_mono (h : LmD X id g) (ma : Mono ta) (mt : MonoA t) : Mono (tdLm g ta t) := fun Γ Q Q' hq => ma _ _ _ fun x Γ1 ⟨q0, q⟩ => ⟨q0, mt _ _ _ (fun rs Γ2 q => by
  split at q
  · exact dat_mono (fun d => dat_mono fun e => h.mono d e _ _ fun z => rq_mono hq) q
  · exact q.elim) q⟩
theorem pd_lm (h : LmD X id g) (slot : Slot "list" name id) (hty : typeOf (.builtin id) = pure (.type "method_descriptor")) (ho : PD X o ta) (ha : PAD X [e] t)
    (hbase : attributeBase o name X.env (eval o X.env) = eval o X.env := by rfl)
    (hfew : ((backTo cpos (starEach [e] X.env)).all (fun x => !x.1) && (backToKw cpos (keywordEach [] X.env)).all (fun x => x.1.isSome) && decide (([e] : List Expr).length + ([] : List Keyword).length + (if ([] : List Keyword).isEmpty then 0 else 1) < 30)) = true := by rfl)
    (hline : (apos.endLine == cpos.line) = true := by rfl) (hs : starEach [e] X.env = (false, eval e X.env) :: starEach [] X.env := by rfl) (hpl : (backTo cpos (starEach [] X.env)).any (·.1) = false := by rfl) :
    PD X (.Call (.Attribute o name apos) [e] [] cpos) (tdLm g ta t) := by
  obtain ⟨r, hm, hr⟩ := h.ok
  refine ⟨PE.imp (pe_bm PySem.F.plainAttrs_list slot hty hm ho.run ha.run hbase hfew hline hs hpl) fun σ H Q ⟨Γ, g0, q⟩ => ?_, tdLm_mono h ho.mono ha.mono⟩
  refine ⟨Γ, g0, ho.mono _ _ _ (fun x Γ1 q1 => ?_) q⟩
  intro v H1 a1 r1
  obtain ⟨ql, q1⟩ := q1
  obtain ⟨d, nd, hl⟩ := dat_ok a1.rg r1 ql
  refine ⟨?_, Γ1, a1.rg, ha.mono _ _ _ (fun rs Γ2 q2 => ?_) q1⟩
  · cases d with
    | list ds =>
      obtain ⟨a, vs, rfl, hq, _⟩ := nd.list
      exact .inl ⟨rfl, vs, hq⟩
    | _ => exact hl.elim
  · intro vs H2 a2 r2
    split at q2
    · obtain ⟨u, w, rfl, ru, rw'⟩ := r2
      cases (show w = [] from rw')
      have a12 := a1.trans g0 a2
      obtain ⟨d, nd, q2⟩ := dat_ok a2.rg (r1.later g0 a1.rg a2) q2
      obtain ⟨e, ne, q2⟩ := dat_ok a2.rg ru q2
      refine hr H2 d e v u Q nd ne (h.mono _ _ _ _ (fun z qz => ?_) q2)
      intro w H' sm rr
      exact rq_ok g0 a12 qz sm rr
    · exact q2.elim
def gCnt : G2 := fun d e k => match d, e with
  | .list ds, .int z => ∃ ns : List Int, ds = ns.map .int ∧ k (.dat (.int (ns.count z : Nat)))
  | _, _ => False
theorem reps_ints {K : PySem.W.Frag} {H : Hp} : ∀ {ns : List Int} {vs : List V}, Reps K H (ns.map .int) vs → vs = ns.map V.int
  | [], _, h => h
  | n :: ns, _, ⟨v, w, e, h1, h2⟩ => by
    subst e
    rw [show v = V.int n from h1, reps_ints h2]
    rfl
theorem lm_cnt : LmD X "list.count" gCnt := by
  refine ⟨⟨_, mt_lcount, fun H d e v u Q nd ne q => ?_⟩, fun d e k k' h q => ?_⟩
  · unfold gCnt at q
    split at q
    · obtain ⟨ns, rfl, q⟩ := q
      obtain ⟨a, vs, rfl, hq, rs⟩ := nd.list
      rw [reps_ints rs] at hq
      rw [ne.int]
      exact ⟨a, ns, _, rfl, rfl, hq, q _ H (same_refl H) rfl⟩
    · exact q.elim
  · unfold gCnt at q ⊢
    split at q
    · obtain ⟨ns, e, q⟩ := q
      exact ⟨ns, e, h _ q⟩
    · exact q.elim
/-- the first place of a number -/
def gIdx : G2 := fun d e k => match d, e with
  | .list ds, .int z => ∃ (ns : List Int) (j : Nat), ds = ns.map .int ∧ ns[j]? = some z ∧ (∀ m : Nat, m < j → ns[m]? ≠ some z) ∧ k (.dat (.int (j : Nat)))
  | _, _ => False
theorem lm_idx : LmD X "list.index" gIdx := by
  refine ⟨⟨_, mt_index, fun H d e v u Q nd ne q => ?_⟩, fun d e k k' h q => ?_⟩
  · unfold gIdx at q
    split at q
    · obtain ⟨ns, j, rfl, hj, hno, q⟩ := q
      obtain ⟨a, vs, rfl, hq, rs⟩ := nd.list
      rw [reps_ints rs] at hq
      rw [ne.int]
      refine ⟨a, _, _, j, .int _, rfl, rfl, hq, rfl, by simp [flatV], by rw [List.getElem?_map, hj]; rfl, by simp [eqV], fun m z' hm hz => ?_, q _ H (same_refl H) rfl⟩
      rw [List.getElem?_map] at hz
      cases e : ns[m]? with
      | none => rw [e] at hz; cases hz
      | some y =>
        rw [e] at hz
        cases hz
        have := hno m hm
        rw [e] at this
        simpa [eqV] using this
    · exact q.elim
  · unfold gIdx at q ⊢
    split at q
    · obtain ⟨ns, j, e1, e2, e3, q⟩ := q
      exact ⟨ns, j, e1, e2, e3, h _ q⟩
    · exact q.elim
end
end DL
/-! DL40: a list some times. -/
namespace DL
open PySem PySem.Spec PyProof.Rows L2
theorem vals_rep {xs : List V} {its : List Value} (h : Vals xs its) : ∀ n : Nat, Vals (List.replicate n xs).flatten (List.replicate n its).flatten
  | 0 => by simp only [List.replicate_zero, List.flatten_nil]; exact .nil
  | n + 1 => by
    rw [List.replicate_succ, List.replicate_succ, List.flatten_cons, List.flatten_cons]
    exact h.append (vals_rep h n)
theorem rep_len {α : Type} (xs : List α) (n : Nat) : (List.replicate n xs).flatten.length = n * xs.length := by
  rw [List.length_flatten, List.map_replicate, List.sum_replicate_nat]
theorem op_mulLI {X : Cx} : OpR X (binaryOp .Mult) (fun x y H Q => ∃ a xs, ∃ n : Int, x = V.ref a ∧ y = V.int n ∧ SqL X.K H a xs ∧ (xs.length ≤ 1000 ∧ 0 ≤ n ∧ n ≤ 1000) ∧ ∀ p, H p = none → Q (.ref p) (upd H p (.lst (List.replicate n.toNat xs).flatten))) := by
  intro pins s σ H x y v u Q I rx ry h
  obtain ⟨a, xs, n, rfl, rfl, hs, ⟨h1, h2, h3⟩, q⟩ := h
  obtain rfl : v = Value.ref a := rx
  obtain ⟨t, rfl⟩ := ry
  obtain ⟨its, rv, ⟨⟨cls, dd, data, sl⟩, k, ho, hc, hdn, hd⟩, hlen⟩ := I.list hs
  have hc1 : cls = Value.type "list" := hc
  have hd1 : data = Data.seq its.toArray k := hd
  subst hc1 hd1
  have hz : its.length ≤ 1000 := by rw [← rv.length]; exact h1
  have hm : its.length * n.toNat ≤ 1000 * 1000 := Nat.mul_le_mul hz (by omega)
  have hsl : sizeLine = 2 ^ 24 ∨ 1000 * 1000 ≤ sizeLine := .inr (by decide)
  have hsl2 : its.length * n.toNat ≤ sizeLine := Nat.le_trans hm (by decide)
  have hsz' : its.toArray.size * n.toNat ≤ 1000 * 1000 := by simpa using hm
  have hsz2 : its.toArray.size * n.toNat ≤ sizeLine := by simpa using hsl2
  have e63 : (2 ^ 63 - 1) / 8 ≥ 1000 * 1000 := by decide
  refine wpAny_binaryOp_repeat_ref (T := "list") (U := "int") (by decide) ⟨_, ho, rfl⟩ (fun s' => typeIs_int s' n t) noFill_list_mul F.fills_int_mul F.slot_int_rmul repeat_list F.slot_int_index.lookup
    (call_meets F.slot_int_rmul (typeIs_int s n t) F.entry_int_rmul (F.args_int_rmul_2 _ _) (lm_int_rmul_list_any n t a its.toArray k dd sl)
      ⟨ho, rfl, ⟨_, ho, rfl⟩, call_meets F.slot_list_mul ⟨_, ho, rfl⟩ F.entry_list_mul (F.args_list_mul_2 _ _)
        (lm_list_mul_any a its.toArray k dd sl n t (by simp [Builtin.List.listFitsIndex]; omega) (by omega) (by simp only [Builtin.List.listTooLong, decide_eq_true_eq]; omega))
        ⟨ho, ?_⟩⟩)
  have e : List.foldl (fun x1 x2 => x1 ++ x2) #[] (List.replicate (if its.toArray.isEmpty = true then 0 else n.toNat) its.toArray) = (List.replicate n.toNat its).flatten.toArray := by
    rw [listMul_foldl_if]
  rw [e]
  refine ⟨.ref s.heap.objs.size, upd H s.heap.objs.size (.lst (List.replicate n.toNat xs).flatten), I.laid (t' := s.toks) (fun b o e => Heap.get?_push_of_some _ e) (Nat.le_refl _) ⟨?_, _, 0, ?_, Heap.get?_push_size _ rfl⟩, rfl, q _ (I.hok.fresh (Nat.le_refl _))⟩
  · rw [rep_len, rv.length, Nat.mul_comm]
    exact hsl2
  · exact vals_rep rv _
theorem reps_rep {K : PySem.W.Frag} {H : Hp} {ds : List D} {vs : List V} (h : Reps K H ds vs) : ∀ n : Nat, Reps K H (List.replicate n ds).flatten (List.replicate n vs).flatten
  | 0 => rfl
  | n + 1 => by
    rw [List.replicate_succ, List.replicate_succ, List.flatten_cons, List.flatten_cons]
    exact h.append (reps_rep h n)
def gMulL : G2 := fun d e k => match d, e with
  | .list ds, .int n => (ds.length ≤ 1000 ∧ 0 ≤ n ∧ n ≤ 1000) ∧ k (.new (.lst (List.replicate n.toNat ds).flatten))
  | _, _ => False
theorem od_mulL {X : Cx} : OpD X (binaryOp .Mult) gMulL := by
  refine ⟨⟨_, op_mulLI, fun H d e v u Q nd ne q => ?_⟩, fun d e k k' h q => ?_⟩
  · unfold gMulL at q
    split at q
    · obtain ⟨a, vs, rfl, h1, h2⟩ := nd.list
      rw [ne.int]
      refine ⟨a, vs, _, rfl, rfl, h1, by rw [h2.len]; exact q.1, fun p hp => ?_⟩
      exact q.2 _ _ (same_upd hp) ⟨rfl, p, rfl, hp, _, upd_same, (reps_rep h2 _).imm (imm_same (same_upd hp))⟩
    · exact q.elim
  · unfold gMulL at q ⊢
    split at q <;> first | exact ⟨q.1, h _ q.2⟩ | exact q
end DL
/-! DL41: in, among any data. -/
namespace DL
open PySem PySem.Spec PyProof.Rows L2
def gInD (f : Bool → Bool) : G2 := fun d e k => match e with
  | .tuple ds => (d.depth ≤ 50 ∧ noD d = true ∧ noDs ds = true) ∧ k (.dat (.bool (f (isIn d ds))))
  | .list ds => (d.depth ≤ 50 ∧ noD d = true ∧ noDs ds = true) ∧ k (.dat (.bool (f (isIn d ds))))
  | _ => False
def rInD (K : PySem.W.Frag) (f : Bool → Bool) : R2 := fun x y H Q => ∃ d e ds, RepN K H d x ∧ RepN K H e y ∧ (e = .tuple ds ∨ e = .list ds) ∧ (d.depth ≤ 50 ∧ noD d = true ∧ noDs ds = true) ∧ Q (.bl (f (isIn d ds))) H
section
variable {X : Cx}
theorem op_inD (hu : X.A.units + 64 < cLine) : OpR X (compareOp .In) (rInD X.K fun b => b) := by
  intro pins s σ H x y v u Q I rx ry h
  obtain ⟨d, e, ds, hd, he, z, ⟨dp, n1, n2⟩, q⟩ := h
  obtain ⟨as, ra⟩ := hd.reads I rx
  obtain ⟨bs, rb⟩ := he.reads I ry
  have hm : X.A.units + 1 + min (PyData.depthAll ds) d.depth < cLine := by
    have := Nat.min_le_right (PyData.depthAll ds) d.depth
    omega
  rcases z with rfl | rfl
  · exact SeqAt.in_tuple_reads rb ra (he.lay (by simpa [noD] using n2)) (hd.lay n1) hm ⟨.bl _, H, I, rfl, q⟩
  · exact SeqAt.in_list_reads rb ra (he.lay (by simpa [noD] using n2)) (hd.lay n1) hm ⟨.bl _, H, I, rfl, q⟩
theorem op_notInD (hu : X.A.units + 64 < cLine) : OpR X (compareOp .NotIn) (rInD X.K fun b => !b) := by
  intro pins s σ H x y v u Q I rx ry h
  obtain ⟨d, e, ds, hd, he, z, ⟨dp, n1, n2⟩, q⟩ := h
  obtain ⟨as, ra⟩ := hd.reads I rx
  obtain ⟨bs, rb⟩ := he.reads I ry
  have hm : X.A.units + 1 + min (PyData.depthAll ds) d.depth < cLine := by
    have := Nat.min_le_right (PyData.depthAll ds) d.depth
    omega
  rcases z with rfl | rfl
  · exact SeqAt.notIn_tuple_reads rb ra (he.lay (by simpa [noD] using n2)) (hd.lay n1) hm ⟨.bl _, H, I, rfl, q⟩
  · exact SeqAt.notIn_list_reads rb ra (he.lay (by simpa [noD] using n2)) (hd.lay n1) hm ⟨.bl _, H, I, rfl, q⟩
theorem opd_inD {f : Value → Value → Sem Value} {p : Bool → Bool} (h : OpR X f (rInD X.K p)) : OpD X f (gInD p) := by
  refine ⟨⟨_, h, fun H d e v u Q nd ne q => ?_⟩, fun d e k k' h q => ?_⟩
  · unfold gInD at q
    split at q
    · exact ⟨d, _, _, nd, ne, .inl rfl, q.1, q.2 _ H (same_refl H) rfl⟩
    · exact ⟨d, _, _, nd, ne, .inr rfl, q.1, q.2 _ H (same_refl H) rfl⟩
    · exact q.elim
  · unfold gInD at q ⊢
    split at q <;> first | exact ⟨q.1, h _ q.2⟩ | exact q
theorem od_inD (hu : X.A.units + 64 < cLine) : OpD X (compareOp .In) (gInD fun b => b) := opd_inD (op_inD hu)
theorem od_notInD (hu : X.A.units + 64 < cLine) : OpD X (compareOp .NotIn) (gInD fun b => !b) := opd_inD (op_notInD hu)
end
end DL
/-! DL42: tuples of one's own, known to have no dict: made by tuple(list), lent, asked by len, [], in, index. -/
namespace DL
open PySem PySem.Spec PyProof.Rows L2
def otup (Γ : G) : SV → (List D → Prop) → Prop
  | .ow _ (.tup ds), k => k ds
  | .bw i, k => match Γ[i]? with
    | some (.ow _ (.tup ds)) => k ds
    | _ => False
  | _, _ => False
theorem otup_mono {Γ : G} {r : SV} {k k' : List D → Prop} (h : ∀ d, k d → k' d) (q : otup Γ r k) : otup Γ r k' := by
  unfold otup at q ⊢
  split at q <;> first | exact h _ q | (split at q <;> first | exact h _ q | exact q) | exact q
theorem otup_ok {K : PySem.W.Frag} {H H0 : Hp} {σ : Sl} {Γ Γ0 : G} {r : SV} {v : V} {k : List D → Prop} (g : RG K H σ Γ) (q : Res K H0 σ Γ0 H Γ v r) (h : otup Γ r k) : ∃ a ob ds vs, v = .ref a ∧ ob.dict = none ∧ H a = some (.frz ob (.tup vs)) ∧ Reps K H ds vs ∧ k ds := by
  unfold otup at h
  split at h
  · obtain ⟨rfl, ⟨ob, vs, e0, e, rs⟩, _, _⟩ := q
    exact ⟨_, ob, _, vs, rfl, e0, e, rs, h⟩
  · split at h
    · rename_i e
      obtain ⟨e1, ob, vs, e0, e2, rs⟩ := g.ow _ _ _ e
      have e3 := (show σ[_]? = some (some v) from q).symm.trans e1
      cases e3
      exact ⟨_, ob, _, vs, rfl, e0, e2, rs, h⟩
    · exact h.elim
  · exact h.elim
section
variable {X : Cx} {a b e : Expr} {ta tb te : TD} {x : Str} {p pos : Pos}
/-- tuple(xs): a new one -/
theorem call_tupF : CallR X (.type "tuple") (fun xs H Q => ∃ p ys, xs = [.ref p] ∧ SqL X.K H p ys ∧ ∀ l ob, ob.dict = none → H l = none → Q (.ref l) (upd H l (.frz ob (.tup ys)))) := by
  intro pins s σ H xs us Q I r h
  obtain ⟨p, ys, rfl, hq, q⟩ := h
  obtain ⟨u, rfl, rx⟩ := vals1 r
  cases rx
  obtain ⟨its, r', pl, hz⟩ := I.list hq
  have hlen := r'.length
  refine call_tuple_list pl.isList (fun h' kp => ?_) (by simp only [List.size_toArray] <;> omega)
  have I1 : Inv X pins σ H { s with heap := h' } := I.kept (t' := s.toks) kp
  have I2 : Inv X pins σ (upd H h'.objs.size (.frz { cls := .type "tuple", data := .seq its.toArray } (.tup ys))) { s with heap := h'.push { cls := .type "tuple", data := .seq its.toArray } } :=
    I1.laid (t' := s.toks) (fun b o e => Heap.get?_push_of_some _ e) (Nat.le_refl _) ⟨Heap.get?_push_size _ rfl, (show ObjOk X.prog X.w _ _ _ (.tup ys) from ⟨hz, its, r', IsTup.new _ _⟩)⟩
  exact ⟨.ref h'.objs.size, _, I2, rfl, q _ _ rfl (I1.hok.fresh (Nat.le_refl _))⟩
def gTupO : GC := fun ds k => match ds with
  | [.list xs] => k (.new (.tup xs))
  | _ => False
theorem cd_tupO : CallD X (.type "tuple") gTupO := by
  refine ⟨⟨_, call_tupF, fun H ds vs Q nd q => ?_⟩, fun ds k k' h q => ?_⟩
  · unfold gTupO at q
    split at q
    · obtain ⟨v, rfl, n⟩ := pr1 nd
      obtain ⟨a, ws, rfl, h1, h2⟩ := n.list
      exact ⟨a, ws, rfl, h1, fun p ob hd hp => q _ _ (same_upd hp) ⟨rfl, p, rfl, hp, ob, ws, hd, upd_same, h2.imm (imm_same (same_upd hp))⟩⟩
    · exact q.elim
  · unfold gTupO at q ⊢
    split at q <;> first | exact h _ q | exact q
/-- len(t) -/
def tdTlen (ta : TD) : TD := fun Γ Q => ta Γ fun r Γ1 => otup Γ1 r fun ds => Q (.fz (.int (ds.length : Nat))) Γ1
theorem pd_tlen (hg : Gl X "len") (hm : X.mg "len" = none) (hv : bootBuiltins "len" = some (.builtin "len")) (ha : PD X e ta)
    (hst : starEach [e] X.env = (false, eval e X.env) :: starEach [] X.env := by rfl) (hpl : (backTo pos (starEach [] X.env)).any (·.1) = false := by rfl) : PD X (.Call (.Name "len" p) [e] [] pos) (tdTlen ta) := by
  refine ⟨PE.imp (pe_callB call_len_seq hg hm hv (pa_cons ha.run pa_nil hst) (by decide) (by decide) hst hpl) fun σ H Q ⟨Γ, g0, q⟩ => ⟨Γ, g0, ha.mono _ _ _ (fun r Γ1 q1 v H1 a1 r1 => ?_) q⟩, fun Γ Q Q' h => ha.mono _ _ _ fun r Γ1 => otup_mono fun ds => h _ _⟩
  obtain ⟨c, ob, ds, vs, rfl, _, e1, rp, q1⟩ := otup_ok a1.rg r1 q1
  refine ⟨c, vs, rfl, .inr (.inl (.inr ⟨ob, e1⟩)), ?_⟩
  rw [rp.len]
  exact q1 _ H1 a1 rfl
/-- t[i] -/
def tdTix (ta tb : TD) : TD := fun Γ Q => ta Γ fun x Γ1 => tb Γ1 fun y Γ2 => otup Γ2 x fun ds => (match y with
  | .fz (.int i) => atP ds i fun d => Q (.fz d) Γ2
  | _ => False)
theorem pd_tix (ha : PD X a ta) (hb : PD X b tb) (hs : PlainIx b := by intro _ _; rfl) : PD X (.Subscript a b pos) (tdTix ta tb) := by
  refine ⟨PE.imp (pe_ix ix_tup ha.run hb.run hs) fun σ H Q ⟨Γ, g0, q⟩ => ⟨Γ, g0, ha.mono _ _ _ (fun x Γ1 q1 => ?_) q⟩, fun Γ Q Q' hq => ha.mono _ _ _ fun x Γ1 => hb.mono _ _ _ fun y Γ2 => otup_mono fun ds q => ?_⟩
  · intro v H1 a1 r1
    refine ⟨Γ1, a1.rg, hb.mono _ _ _ (fun y Γ2 q2 => ?_) q1⟩
    intro u H2 a2 r2
    have a12 := a1.trans g0 a2
    obtain ⟨c, ob, ds, vs, rfl, _, e1, rp, q2⟩ := otup_ok a2.rg (r1.later g0 a1.rg a2) q2
    split at q2
    · rename_i i _
      cases (show u = V.int i from r2)
      obtain ⟨d, ed, q2⟩ := atP_ok q2
      obtain ⟨w, ew, rw'⟩ := atI_reps rp ed
      exact ⟨c, vs, i, w, rfl, rfl, .inl (.inr ⟨ob, e1⟩), ew, q2 w H2 a12 rw'⟩
    · exact q2.elim
  · split at q
    · exact atP_mono (fun d => hq _ _) q
    · exact q
/-- x in t, x not in t -/
def tdTin (f : Bool → Bool) (ta tb : TD) : TD := fun Γ Q => ta Γ fun y Γ1 => tb Γ1 fun x Γ2 => otup Γ2 x fun ds => (match y with
  | .fz d => flat d = true ∧ ds.all flat = true ∧ Q (.fz (.bool (f (isIn d ds)))) Γ2
  | _ => False)
theorem tdTin_mono {f : Bool → Bool} (ma : Mono ta) (mb : Mono tb) : Mono (tdTin f ta tb) := fun Γ Q Q' hq => ma _ _ _ fun x Γ1 => mb _ _ _ fun y Γ2 => otup_mono fun ds q => by
  split at q
  · exact ⟨q.1, q.2.1, hq _ _ q.2.2⟩
  · exact q
theorem tdTin_ok {neg : Bool} (ma : Mono ta) (mb : Mono tb) {σ : Sl} {H : Hp} {Q : VK} (q : lift X.K (tdTin (fun b => if neg then !b else b) ta tb) σ H Q) : lift X.K ta σ H fun v H1 => lift X.K tb σ H1 fun u H2 => rIn X.K neg v u H2 Q := by
  obtain ⟨Γ, g0, q⟩ := q
  refine ⟨Γ, g0, ma _ _ _ (fun y Γ1 q1 => ?_) q⟩
  intro v H1 a1 r1
  refine ⟨Γ1, a1.rg, mb _ _ _ (fun x Γ2 q2 => ?_) q1⟩
  intro u H2 a2 r2
  have a12 := a1.trans g0 a2
  obtain ⟨c, ob, ds, vs, rfl, _, e1, rp, q2⟩ := otup_ok a2.rg r2 q2
  split at q2
  · rename_i d _
    obtain ⟨f1, f2, q2⟩ := q2
    have rd : Rep X.K H2 d v := Rep.imm r1 (a2.imm a1.rg)
    refine ⟨c, vs, rfl, .inr (.inl (.inr ⟨ob, e1⟩)), rd.flatV f1, rp.flatV f2, ?_⟩
    rw [rp.inV rd f1 f2]
    exact q2 _ H2 a12 (by cases neg <;> rfl)
  · exact q2.elim
theorem pb_tin (ha : PD X a ta) (hb : PD X b tb) (hm : behindInMarks .In b = false := by first | rfl | exact nomark _) : PB X (.Compare a [.In] [b] pos) (tdB (tdTin (fun b => if false then !b else b) ta tb)) :=
  ⟨PT.imp (pt_cmpR op_in_seq ha.run hb.run hm) fun σ H Q q => tTest_imp (fun _ _ _ => tdTin_ok (neg := false) ha.mono hb.mono) (tdB_ok (tdTin_mono ha.mono hb.mono) q), tdB_mono (tdTin_mono ha.mono hb.mono)⟩
theorem pb_tnin (ha : PD X a ta) (hb : PD X b tb) (hm : behindInMarks .NotIn b = false := by first | rfl | exact nomark _) : PB X (.Compare a [.NotIn] [b] pos) (tdB (tdTin (fun b => if true then !b else b) ta tb)) :=
  ⟨PT.imp (pt_cmpR op_notIn_seq ha.run hb.run hm) fun σ H Q q => tTest_imp (fun _ _ _ => tdTin_ok (neg := true) ha.mono hb.mono) (tdB_ok (tdTin_mono ha.mono hb.mono) q), tdB_mono (tdTin_mono ha.mono hb.mono)⟩
end
/-! ### t.index(x) -/
/-- a method of a tuple whose object is known -/
def tTM (r : V → List V → Hp → VK → Prop) (to : TE) (t : TA) : TE := fun σ H Q => to σ H fun x H1 => (∃ a ob vs, x = .ref a ∧ ob.dict = none ∧ H1 a = some (.frz ob (.tup vs))) ∧ t σ H1 fun xs H2 => r x xs H2 Q
section
variable {X : Cx} {o e : Expr} {to : TE} {t : TA} {name : Str} {apos cpos : Pos} {id : String} {r : V → List V → Hp → VK → Prop}
theorem pe_tm (slot : Slot "tuple" name id) (hty : typeOf (.builtin id) = pure (.type "method_descriptor")) (hm : MtR X id r) (ho : PE X o to) (ha : PA X [e] t)
    (hbase : attributeBase o name X.env (eval o X.env) = eval o X.env := by rfl)
    (hfew : ((backTo cpos (starEach [e] X.env)).all (fun x => !x.1) && (backToKw cpos (keywordEach [] X.env)).all (fun x => x.1.isSome)
      && decide (([e] : List Expr).length + ([] : List Keyword).length + (if ([] : List Keyword).isEmpty then 0 else 1) < 30)) = true := by rfl)
    (hline : (apos.endLine == cpos.line) = true := by rfl) (hs : starEach [e] X.env = (false, eval e X.env) :: starEach [] X.env := by rfl) (hplain : (backTo cpos (starEach [] X.env)).any (·.1) = false := by rfl) :
    PE X (.Call (.Attribute o name apos) [e] [] cpos) (tTM r to t) := by
  refine ⟨fun pins s σ H Q I h => ?_⟩
  refine wpAny_Call_method_late hbase hfew hline rfl (thn (ho.run pins s σ H _ I h) fun v s1 ⟨x, H1, I1, r1, ⟨a, ob, vs0, ex, hd, ha1⟩, q1⟩ => ?_)
  subst ex
  cases r1
  obtain ⟨g1, g2⟩ := I1.hok a _ ha1
  obtain ⟨_, its, _, hit⟩ := g2
  refine ⟨"tuple", id, PySem.F.plainAttrs_tuple, slot, hty, hit.typeIs, fun b hb => by cases hb; exact ⟨ob, g1, hd⟩, ?_⟩
  have hA := ha.run cpos pins s1 σ H1 _ I1 q1
  rw [hs] at hA ⊢
  refine Calls.callWith_builtin (by show (false || (backTo cpos (starEach [] X.env)).any (·.1)) = false; rw [hplain] <;> rfl) (Calls.evalArgs_plain ?_)
  exact thn hA fun us s2 ⟨vs, H2, I2, r2, q2⟩ => hm pins s2 σ H2 (.ref a) vs _ us Q I2 rfl r2 q2
end
/-- the place of an int in a tuple of ints -/
def tdTidx (ta tb : TD) : TD := fun Γ Q => ta Γ fun x Γ1 => otup Γ1 x (fun _ => True) ∧ tb Γ1 fun y Γ2 => otup Γ2 x fun ds => (match y with
  | .fz (.int z) => ∃ (ns : List Int) (j : Nat), ds = ns.map .int ∧ ns[j]? = some z ∧ (∀ m : Nat, m < j → ns[m]? ≠ some z) ∧ Q (.fz (.int (j : Nat))) Γ2
  | _ => False)
theorem pd_tidx {X : Cx} {o e : Expr} {ta tb : TD} {apos cpos : Pos} (ho : PD X o ta) (he : PD X e tb)
    (hbase : attributeBase o "index" X.env (eval o X.env) = eval o X.env := by rfl)
    (hfew : ((backTo cpos (starEach [e] X.env)).all (fun x => !x.1) && (backToKw cpos (keywordEach [] X.env)).all (fun x => x.1.isSome)
      && decide (([e] : List Expr).length + ([] : List Keyword).length + (if ([] : List Keyword).isEmpty then 0 else 1) < 30)) = true := by rfl)
    (hline : (apos.endLine == cpos.line) = true := by rfl) (hs : starEach [e] X.env = (false, eval e X.env) :: starEach [] X.env := by rfl) (hplain : (backTo cpos (starEach [] X.env)).any (·.1) = false := by rfl) :
    PD X (.Call (.Attribute o "index" apos) [e] [] cpos) (tdTidx ta tb) := by
  refine ⟨PE.imp (pe_tm PySem.F.slot_tuple_index PySem.F.type_tuple_index mt_idxI ho.run (pa_cons he.run pa_nil hs) hbase hfew hline hs hplain) fun σ H Q ⟨Γ, g0, q⟩ => ⟨Γ, g0, ho.mono _ _ _ (fun x Γ1 q1 => ?_) q⟩,
    fun Γ Q Q' hq => ho.mono _ _ _ fun x Γ1 ⟨q0, q⟩ => ⟨q0, he.mono _ _ _ (fun y Γ2 => otup_mono fun ds q => ?_) q⟩⟩
  · intro v H1 a1 r1
    obtain ⟨q0, q1⟩ := q1
    obtain ⟨c, ob, ds, vs, rfl, hd, e1, _, _⟩ := otup_ok a1.rg r1 q0
    refine ⟨⟨c, ob, vs, rfl, hd, e1⟩, Γ1, a1.rg, he.mono _ _ _ (fun y Γ2 q2 => ?_) q1⟩
    intro u H2 a2 r2
    have a12 := a1.trans g0 a2
    obtain ⟨c', ob2, ds2, vs2, ec, _, e2, rp, q2⟩ := otup_ok a2.rg (r1.later g0 a1.rg a2) q2
    cases ec
    split at q2
    · rename_i z _
      obtain ⟨ns, j, rfl, h1, h2, q2⟩ := q2
      cases (show u = V.int z from r2)
      rw [rp.ints] at e2
      exact ⟨c, ns, z, j, rfl, rfl, .inl (.inr ⟨ob2, e2⟩), h1, h2, q2 _ H2 a12 rfl⟩
    · exact q2.elim
  · split at q
    · obtain ⟨ns, j, h0, h1, h2, q⟩ := q
      exact ⟨ns, j, h0, h1, h2, hq _ _ q⟩
    · exact q
end DL
/-! DL43: a def that gives data, called so that what it gives is one's own (FRESH), and a def that takes data, called with what is one's own (VIEW): the callee is shown a part of the heap. -/
namespace DL
open PySem PySem.Spec PyProof.Rows L2
mutual
/-- no list, no dict in it -/
def noL : D → Bool
  | .tuple ds => noLs ds
  | .list _ => false
  | .dict _ => false
  | _ => true
def noLs : List D → Bool
  | [] => true
  | d :: ds => noL d && noLs ds
end
mutual
theorem Rep.tups {K : PySem.W.Frag} {H H' : Hp} : ∀ {d : D} {v : V}, Rep K H d v → noL d = true → (∀ b xs, H b = some (.tup xs) → H' b = some (.tup xs)) → Rep K H' d v
  | .none, _, h, _, _ => h
  | .bool _, _, h, _, _ => h
  | .int _, _, h, _, _ => h
  | .str _, _, h, _, _ => h
  | .tuple ds, _, h, n, i => by
    obtain ⟨a, vs, e, h1, h2⟩ := h
    exact ⟨a, vs, e, i _ _ h1, Reps.tups h2 (by simpa [noL] using n) i⟩
  | .list ds, _, h, n, i => by simp [noL] at n
  | .dict kvs, _, h, n, i => by simp [noL] at n
theorem Reps.tups {K : PySem.W.Frag} {H H' : Hp} : ∀ {ds : List D} {vs : List V}, Reps K H ds vs → noLs ds = true → (∀ b xs, H b = some (.tup xs) → H' b = some (.tup xs)) → Reps K H' ds vs
  | [], _, h, _, _ => h
  | d :: ds, _, h, n, i => by
    obtain ⟨v, r, e, h1, h2⟩ := h
    have n : noL d = true ∧ noLs ds = true := by simpa [noLs] using n
    exact ⟨v, r, e, Rep.tups h1 n.1 i, Reps.tups h2 n.2 i⟩
end
/-! ### a part of the heap -/
inductive KeptO : HO → Prop
  | tup (xs) : KeptO (.tup xs)
  | lst (o xs) : KeptO (.frz o (.lst xs))
  | dT (o o' xs) : KeptO (.frz o (.frz o' (.dT xs)))
  | tbl (ps) : KeptO (.tbl ps)
  | ext (φ) : KeptO (.ext φ)
inductive LockO (od : Obj) : HO → HO → Prop
  | lst (xs) : LockO od (.lst xs) (.frz od (.lst xs))
  | dT (xs) : LockO od (.dT xs) (.frz od (.frz od (.dT xs)))
structure Sub (h : Heap) (H HF : Hp) : Prop where
  cs : ∀ b u, H b = some u → HF b = none ∨ (HF b = some u ∧ KeptO u) ∨ ∃ od uf, LockO od u uf ∧ HF b = some uf ∧ h.get? b = some od
  no : ∀ b, H b = none → HF b = none
  ky : ∀ (b : Addr) (ks : List Key), H b = some (.tup (ks.map kV)) → HF b = some (.tup (ks.map kV))
  tb : ∀ b ps, H b = some (.tbl ps) → HF b = some (.tbl ps)
  cd : ∀ b φ, H b = some (.ext φ) → HF b = some (.ext φ)
open Classical in
/-- the heap behind the call -/
noncomputable def ovr (H HF H' : Hp) : Hp := fun b => if H b ≠ none ∧ HF b ≠ H b then H b else H' b
section
variable {P : Program} {w : World} {K : PySem.W.Frag} {H HF H' H3 : Hp} {h h' : Heap} {fs : List Addr} {σ : Sl} {Γ : G}
theorem Sub.hok (S : Sub h H HF) (ok : HOk P w H h) : HOk P w HF h := fun b u e => by
  cases q : H b with
  | none => rw [S.no b q] at e; cases e
  | some u0 =>
    have x := ok b u0 q
    rcases S.cs b u0 q with z | ⟨z, k⟩ | ⟨od, uf, lo, z, g⟩
    · rw [z] at e; cases e
    · rw [z] at e; cases e
      cases k with
      | tup xs => exact x
      | lst o xs => exact x
      | dT o o' xs =>
        obtain ⟨e1, e2, z, y, us, r, c⟩ := x
        exact ⟨e1, e2, z, y, us, L2.Paired.mapP r fun p q z => ⟨z.1, S.ky _ _ z.2.1, z.2.2⟩, c⟩
      | tbl ps => exact x
      | ext φ => exact x
    · rw [z] at e; cases e
      cases lo with
      | lst xs => exact ⟨g, x⟩
      | dT xs =>
        obtain ⟨z, y, us, r, c⟩ := x
        exact ⟨g, g, z, y, us, L2.Paired.mapP r fun p q z => ⟨z.1, S.ky _ _ z.2.1, z.2.2⟩, c⟩
/-- what the callee's end gives -/
structure Seen (P : Program) (w : World) (fs : List Addr) (H HF H' : Hp) (h h' : Heap) : Prop where
  S : Sub h H HF
  un : Un fs [] HF H' h h'
  ok : HOk P w H h
  ok' : HOk P w H' h'
  fr : ∀ b ∈ fs, H b = none
  kp : ∀ b u, HF b = some u → [NT u] → H' b = some u
  tb : TbOk HF H'
theorem ovr_no {b : Addr} (e : H b = none) : ovr H HF H' b = H' b := by
  unfold ovr
  rw [if_neg (fun z => z.1 e)]
theorem ovr_eq {b : Addr} (e : HF b = H b) : ovr H HF H' b = H' b := by
  unfold ovr
  rw [if_neg (fun z => z.2 e)]
theorem ovr_ne {b : Addr} {u : HO} (e : H b = some u) (n : HF b ≠ H b) : ovr H HF H' b = some u := by
  unfold ovr
  rw [if_pos ⟨(by rw [e]; exact fun z => by cases z), n⟩, e]
theorem Seen.f1 (s : Seen P w fs H HF H' h h') (b : Addr) (u : HO) (e : H b = some u) [i : NT u] : ovr H HF H' b = some u := by
  by_cases c : HF b = H b
  · rw [ovr_eq c]
    exact s.kp b u (c.trans e)
  · exact ovr_ne e c
theorem Seen.hid (s : Seen P w fs H HF H' h h') {b : Addr} {u : HO} (e : H b = some u) (n : HF b = none) : H' b = none := by
  have x := (s.ok b u e).lt
  cases q : h.get? b with
  | none => 
    have : ∃ o, h.get? b = some o := by
      have x := s.ok b u e
      cases u with
      | lst xs => obtain ⟨_, _, _, _, e⟩ := x; exact ⟨_, e⟩
      | tup xs => obtain ⟨_, _, _, o, e, _⟩ := x; exact ⟨_, e⟩
      | dK kvs => obtain ⟨_, _, _, _, o, _, _, e, _⟩ := x; exact ⟨_, e⟩
      | dT kvs => obtain ⟨_, _, _, _, o, _, _, e, _⟩ := x; exact ⟨_, e⟩
      | set S n => obtain ⟨o, _, _, _, e, _⟩ := x; exact ⟨_, e⟩
      | ins C dx fs => obtain ⟨_, _, _, e, _⟩ := x; exact ⟨_, e⟩
      | own y => obtain ⟨_, e⟩ := x; exact ⟨_, e⟩
      | xd fs => obtain ⟨_, ⟨_, _, _, e, _⟩, _⟩ := x; exact ⟨_, e⟩
      | rng lo hi => obtain ⟨_, _, _, e⟩ := x; exact ⟨_, e⟩
      | frz ob u => obtain ⟨e, _⟩ := x; exact ⟨_, e⟩
      | tbl ps => exact ⟨_, (show h.get? b = some _ from x)⟩
      | met f y => exact ⟨_, (show h.get? b = some _ from x)⟩
      | ext φ => obtain ⟨_, ⟨_, e⟩, _⟩ := x; exact ⟨_, e⟩
    obtain ⟨o, z⟩ := this
    rw [q] at z; cases z
  | some o => exact s.un.free b o q n (by simp)
theorem Seen.f2 (s : Seen P w fs H HF H' h h') {b : Addr} {u : HO} (e : H' b = some u) : ovr H HF H' b = some u ∨ ∃ od u', u = .frz od u' := by
  cases q : H b with
  | none => exact .inl (by rw [ovr_no q]; exact e)
  | some u0 =>
    rcases s.S.cs b u0 q with z | ⟨z, k⟩ | ⟨od, uf, lo, z, g⟩
    · rw [s.hid q z] at e; cases e
    · exact .inl (by rw [ovr_eq (z.trans q.symm)]; exact e)
    · cases lo with
      | lst xs =>
        rw [s.un.frzs _ _ _ z] at e; cases e
        exact .inr ⟨_, _, rfl⟩
      | dT xs =>
        rw [s.un.frzs _ _ _ z] at e; cases e
        exact .inr ⟨_, _, rfl⟩
theorem Seen.f2' (s : Seen P w fs H HF H' h h') {b : Addr} {u : HO} (e : H' b = some u) (n : ∀ od ws, u ≠ .frz od ws) : ovr H HF H' b = some u := by
  rcases s.f2 e with z | ⟨od, ws, z⟩
  · exact z
  · exact absurd z (n od ws)
theorem Seen.unO (s : Seen P w fs H HF H' h h') : Un fs [] H (ovr H HF H') h h' where
  keep := fun b o e n => s.un.keep b o e (s.S.no b n)
  slot := fun b o e n => s.un.slot b o e (s.S.no b n)
  free := fun b o e n hx => by rw [ovr_no n]; exact s.un.free b o e (s.S.no b n) hx
  there := s.un.there
  tups := fun b xs e => s.f1 b _ e
  frzs := fun b o u e => s.f1 b _ e
  tbls := fun b ps e => by
    have e2 := s.S.tb b ps e
    obtain ⟨m, z⟩ := s.un.tbls b ps e2
    exact ⟨m, by rw [ovr_eq (e2.trans e.symm)]; exact z⟩
theorem Seen.hokO (s : Seen P w fs H HF H' h h') : HOk P w (ovr H HF H') h' := fun b u e => by
  by_cases c : H b ≠ none ∧ HF b ≠ H b
  · have e0 : H b = some u := by
      have : ovr H HF H' b = H b := by unfold ovr; rw [if_pos c]
      rw [← this]; exact e
    have hk : ∀ {c : Addr} {v : Obj} {u : HO}, H c = some u → HF c = none → h.get? c = some v → h'.get? c = some v := fun {c v u} q n g => s.un.keep c v g n (fun z => by rw [s.fr c z] at q; cases q) (by simp)
    rcases s.S.cs b u e0 with z | ⟨z, k⟩ | ⟨od, uf, lo, z, g⟩
    · refine (s.ok b u e0).stay (fun c v hc g => ?_) (fun c q => s.f1 c _ q) fun c xs q => s.f1 c _ q
      rcases hc with rfl | hc
      · exact hk e0 z g
      · rcases s.S.cs c _ hc with z | ⟨z, k⟩ | ⟨od, uf, lo, z, g⟩
        · exact hk hc z g
        · cases k
        · cases lo
    · exact absurd (z.trans e0.symm) c.2
    · have x : ObjOk P w H' h' b u := by
        cases lo with
        | lst xs => exact (s.ok' b _ (s.un.frzs _ _ _ z)).2
        | dT xs => exact (s.ok' b _ (s.un.frzs _ _ _ z)).2.2
      exact x.stay (fun _ _ _ g => g) (fun c q => s.f2' q fun _ _ z => by cases z) fun c xs q => s.f2' q fun _ _ z => by cases z
  · have e0 : H' b = some u := by
      have : ovr H HF H' b = H' b := by unfold ovr; rw [if_neg c]
      rw [← this]; exact e
    exact (s.ok' b u e0).stay (fun _ _ _ g => g) (fun c q => s.f2' q fun _ _ z => by cases z) fun c xs q => s.f2' q fun _ _ z => by cases z
theorem Seen.imm (s : Seen P w fs H HF H' h h') : Imm H (ovr H HF H') := by
  refine ⟨fun b u e n => ?_, TbOk.trans (TbOk.keep fun b o e => ⟨fun ps z => ?_, fun q z => ?_⟩) (s.tb.trans (TbOk.keep fun b o e => ⟨fun ps z => ?_, fun q z => ?_⟩))⟩
  · have : NT u := ⟨fun ps z => by subst z; exact n trivial⟩
    exact s.f1 b u e
  · subst z; exact s.S.tb b ps e
  · subst z; exact s.S.cd b _ e
  · subst z; exact s.f2' e fun _ _ z => by cases z
  · subst z; exact s.f2' e fun _ _ z => by
      have z2 : HO.ext _ = HO.frz _ _ := z
      cases z2
/-- all that was there is there -/
theorem aft_ext (g : RG K H σ Γ) (f1 : ∀ b u, H b = some u → [NT u] → H3 b = some u) (im : Imm H H3) : Aft K H Γ H3 σ Γ := by
  refine ⟨fun b u e _ => fun [NT u] => f1 b u e, ⟨g.len, fun i d e => ?_, fun i p o e => ?_, g.raw, g.one, g.tbm im⟩, fun _ z => .inl z, im⟩
  · obtain ⟨v, e1, r⟩ := g.fz i d e
    exact ⟨v, e1, r.imm im⟩
  · obtain ⟨e1, r⟩ := g.ow i p o e
    exact ⟨e1, r.keepN (fun b _ u z => f1 b u z) im⟩
/-- a frozen list that is new is thawed -/
theorem Un.thaw {a : Addr} {o : Obj} {ws : List V} (u : Un fs [] H H3 h h') (e : H3 a = some (.frz o (.lst ws))) (n : H a = none) : Un fs [] H (upd H3 a (.lst ws)) h h' := by
  have ne : ∀ {b}, (∃ u, H b = some u) → b ≠ a := fun {b} ⟨u, q⟩ z => by rw [z, n] at q; cases q
  refine ⟨u.keep, u.slot, fun b ob q m hx => ?_, u.there, fun b xs q => ?_, fun b ob x q => ?_, fun b ps q => ?_⟩
  · have z := u.free b ob q m hx
    rw [upd_ne (fun y => by rw [y, e] at z; cases z)]; exact z
  · rw [upd_ne (ne ⟨_, q⟩)]; exact u.tups b xs q
  · rw [upd_ne (ne ⟨_, q⟩)]; exact u.frzs b ob x q
  · rw [upd_ne (ne ⟨_, q⟩)]; exact u.tbls b ps q
theorem HOk.thaw {a : Addr} {o : Obj} {ws : List V} (x : HOk P w H3 h') (e : H3 a = some (.frz o (.lst ws))) : HOk P w (upd H3 a (.lst ws)) h' := fun b u q => by
  by_cases hb : b = a
  · subst hb
    rw [upd_same] at q; cases q
    exact (x b _ e).2
  · rw [upd_ne hb] at q
    have ne : ∀ {c v}, H3 c = some v → (∀ o u, v ≠ .frz o u) → c ≠ a := fun {c v} y m z => by rw [z, e] at y; exact m _ _ (Option.some.inj y).symm
    exact (x b u q).stay (fun _ _ _ g => g) (fun c y => by rw [upd_ne (ne y fun _ _ z => by cases z)]; exact y) fun c xs y => by rw [upd_ne (ne y fun _ _ z => by cases z)]; exact y
theorem Imm.thaw {a : Addr} {ws : List V} (f1 : ∀ b u, H b = some u → [NT u] → H3 b = some u) (i : Imm H H3) (n : H a = none) {o : Obj} (e : H3 a = some (.frz o (.lst ws))) : Imm H (L2.upd H3 a (.lst ws)) := by
  refine ⟨fun b u q m => ?_, i.tb.trans (TbOk.frz e)⟩
  rw [upd_ne (fun z => by rw [z, n] at q; cases q)]
  exact i b u q m
end

/-! ### FRESH -/
/-- no list in it, by tuples alone -/
inductive NL (H : Hp) : V → Prop
  | flat (v : V) (h : ∀ a, v ≠ .ref a) : NL H v
  | tup (a : Addr) (xs : List V) (e : H a = some (.tup xs)) (h : ∀ x ∈ xs, NL H x) : NL H (.ref a)
open Classical in
noncomputable def hideL (H : Hp) : Hp := fun b => match H b with
  | some (.tup xs) => if ∀ x ∈ xs, NL H x then some (.tup xs) else none
  | some (.tbl ps) => some (.tbl ps)
  | some (.ext φ) => some (.ext φ)
  | _ => none
theorem hideL_sub (h : Heap) (H : Hp) : Sub h H (hideL H) := by
  refine ⟨fun b u e => ?_, fun b e => ?_, fun b ks e => ?_, fun b ps e => ?_, fun b φ e => ?_⟩
  · unfold hideL
    rw [e]
    cases u with
    | tup xs =>
      by_cases c : ∀ x ∈ xs, NL H x
      · exact .inr (.inl ⟨if_pos c, .tup xs⟩)
      · exact .inl (if_neg c)
    | tbl ps => exact .inr (.inl ⟨rfl, .tbl ps⟩)
    | ext φ => exact .inr (.inl ⟨rfl, .ext φ⟩)
    | _ => exact .inl rfl
  · unfold hideL; rw [e]
  · unfold hideL; rw [e]
    refine if_pos fun x hx => ?_
    obtain ⟨k, _, rfl⟩ := List.mem_map.mp hx
    exact .flat _ fun a z => by cases k <;> cases z
  · unfold hideL; rw [e]
  · unfold hideL; rw [e]
mutual
theorem Rep.nl {K : PySem.W.Frag} {H : Hp} : ∀ {d : D} {v : V}, Rep K H d v → noL d = true → NL H v
  | .none, _, h, _ => by rw [show _ = V.non from h]; exact .flat _ fun a z => by cases z
  | .bool _, _, h, _ => by rw [show _ = V.bl _ from h]; exact .flat _ fun a z => by cases z
  | .int _, _, h, _ => by rw [show _ = V.int _ from h]; exact .flat _ fun a z => by cases z
  | .str _, _, h, _ => by rw [show _ = V.str _ from h.1]; exact .flat _ fun a z => by cases z
  | .tuple ds, _, h, n => by
    obtain ⟨a, vs, rfl, h1, h2⟩ := h
    exact .tup a vs h1 (Reps.nl h2 (by simpa [noL] using n))
  | .list ds, _, h, n => by simp [noL] at n
  | .dict kvs, _, h, n => by simp [noL] at n
theorem Reps.nl {K : PySem.W.Frag} {H : Hp} : ∀ {ds : List D} {vs : List V}, Reps K H ds vs → noLs ds = true → ∀ x ∈ vs, NL H x
  | [], _, h, _, x, hx => by rw [show _ = [] from h] at hx; cases hx
  | d :: ds, _, h, n, x, hx => by
    obtain ⟨v, r, rfl, h1, h2⟩ := h
    have n : noL d = true ∧ noLs ds = true := by simpa [noLs] using n
    rcases List.mem_cons.mp hx with rfl | hx
    · exact Rep.nl h1 n.1
    · exact Reps.nl h2 n.2 x hx
end
mutual
theorem Rep.hideL {K : PySem.W.Frag} {H : Hp} : ∀ {d : D} {v : V}, Rep K H d v → noL d = true → Rep K (hideL H) d v
  | .none, _, h, _ => h
  | .bool _, _, h, _ => h
  | .int _, _, h, _ => h
  | .str _, _, h, _ => h
  | .tuple ds, _, h, n => by
    obtain ⟨a, vs, e, h1, h2⟩ := h
    refine ⟨a, vs, e, ?_, Reps.hideL h2 (by simpa [noL] using n)⟩
    show DL.hideL H a = some (.tup vs)
    unfold DL.hideL
    rw [show H a = some (.tup vs) from h1]
    exact if_pos (Reps.nl h2 (by simpa [noL] using n))
  | .list ds, _, h, n => by simp [noL] at n
  | .dict kvs, _, h, n => by simp [noL] at n
theorem Reps.hideL {K : PySem.W.Frag} {H : Hp} : ∀ {ds : List D} {vs : List V}, Reps K H ds vs → noLs ds = true → Reps K (hideL H) ds vs
  | [], _, h, _ => h
  | d :: ds, _, h, n => by
    obtain ⟨v, r, e, h1, h2⟩ := h
    have n : noL d = true ∧ noLs ds = true := by simpa [noLs] using n
    exact ⟨v, r, e, Rep.hideL h1 n.1, Reps.hideL h2 n.2⟩
end
theorem noLs_at : ∀ {ds : List D} {i : Nat} {d : D}, noLs ds = true → ds[i]? = some d → noL d = true
  | [], _, _, _, e => by simp at e
  | x :: ds, 0, d, n, e => by
    have n : noL x = true ∧ noLs ds = true := by simpa [noLs] using n
    simp at e; subst e; exact n.1
  | x :: ds, i + 1, d, n, e => by
    have n : noL x = true ∧ noLs ds = true := by simpa [noLs] using n
    exact noLs_at n.2 (by simpa using e)
/-- what is given: a list, a pair with a list at its end, are one's own; other data without lists stay -/
def frOk : SV → (SV → Prop) → Prop
  | .fz (.list ds), k => noLs ds = true ∧ ∀ a, k (.ow a (.lst ds))
  | .fz (.tuple [d, .list ds]), k => noL d = true ∧ noLs ds = true ∧ ∀ b a, k (.ow b (.nest .tup [.d d, .o a (.lst ds)]))
  | .fz d, k => noL d = true ∧ k (.fz d)
  | _, _ => False
theorem frOk_mono {r : SV} {k k' : SV → Prop} (h : ∀ r, k r → k' r) (q : frOk r k) : frOk r k' := by
  unfold frOk at q ⊢
  split at q
  · exact ⟨q.1, fun a => h _ (q.2 a)⟩
  · exact ⟨q.1, q.2.1, fun b a => h _ (q.2.2 b a)⟩
  · exact ⟨q.1, h _ q.2⟩
  · exact q
def freshSp (sp : SpD) : SpD := fun Γ Q _ => (∃ ds : List D, Γ = ds.map .fz ∧ noLs ds = true) ∧ sp Γ (fun r Γ' => Γ' = Γ ∧ frOk r fun r' => Q r' Γ) fun _ _ => False
theorem ms_fresh {sp : SpD} (m : MonoSp sp) : MonoSp (freshSp sp) := fun Γ Q Q' E E' h _ ⟨c, q⟩ => ⟨c, m _ _ _ _ _ (fun r Γ' q => ⟨q.1, frOk_mono (fun r' => h r' _) q.2⟩) (fun _ _ z => z) q⟩
/-- the kernel part holds no list -/
def noLstIn (K : PySem.W.Frag) : Bool := K.all fun p => match p.2.cls with
  | .type n => n != "list"
  | _ => true
theorem noLst_ok {K : PySem.W.Frag} (n : noLstIn K = true) {a : Addr} {o : Obj} (e : K.lookup a = some o) : o.cls ≠ .type "list" := fun z => by
  have hm : (a, o) ∈ K := by
    clear n
    induction K with
    | nil => cases e
    | cons p K ih =>
      obtain ⟨b, u⟩ := p
      rw [List.lookup_cons] at e
      split at e
      · rename_i q
        cases e
        rw [eq_of_beq q]
        exact List.mem_cons_self
      · exact List.mem_cons_of_mem _ (ih e)
  have := List.all_eq_true.mp n _ hm
  rw [z] at this
  simp at this
theorem fz_noown {ds : List D} {a : Addr} : ¬ own (ds.map SV.fz) a := fun h => by
  obtain ⟨i, p, o, e, _⟩ := own_el h
  rw [List.getElem?_map] at e
  cases q : ds[i]? with
  | none => rw [q] at e; cases e
  | some d => rw [q] at e; cases e
section
variable {P : Program} {w : World} {K : PySem.W.Frag} {mg : Str → Option Value} {base : Heap} {k n : Nat} {f : Addr} {fd : FuncData} {ps : List Str} {sp : SpD}
theorem rg_fz {H HF : Hp} {σ : Sl} {ds : List D} (g : RG K H σ (ds.map .fz)) (h : ∀ (i : Nat) d v, ds[i]? = some d → Rep K H d v → Rep K HF d v) (ht : ∀ P, LawTab K P → LamX.TabS HF P lamq) : RG K HF σ (ds.map .fz) := by
  refine ⟨g.len, fun i d e => ?_, fun i p o e => ?_, g.raw, g.one, ht⟩
  · obtain ⟨v, e1, r⟩ := g.fz i d e
    rw [List.getElem?_map] at e
    cases q : ds[i]? with
    | none => rw [q] at e; cases e
    | some d' => rw [q] at e; cases e; exact ⟨v, e1, h i _ v q r⟩
  · exact absurd (own_p e) fz_noown
theorem Sub.env {A : Around} {outer : List Env} {s : Shared} {H HF : Hp} (S : Sub s.heap H HF) (e0 : Env0 P w K mg base A outer s H) : Env0 P w K mg base A outer s HF :=
  ⟨e0.frames, e0.mod, fun b o h => ⟨(e0.bs b o h).1, S.no _ (e0.bs b o h).2⟩, e0.bsz, e0.funs, fun b hb => S.no _ (e0.frf b hb), S.hok e0.hok, e0.bare⟩
theorem Sub.tabs {h : Heap} {H HF : Hp} (S : Sub h H HF) (ht : ∀ P, LawTab K P → LamX.TabS H P lamq) : ∀ P, LawTab K P → LamX.TabS HF P lamq := fun P hP =>
  (TbOk.keep (H := H) (H' := HF) fun b o e => ⟨fun ps z => by subst z; exact S.tb b ps e, fun q z => by subst z; exact S.cd b _ e⟩).1 P (ht P hP)
theorem fresh_fn (NLK : noLstIn K = true) (m : MonoSp sp) (F : FnOk P w K mg base CX0 k f fd ps (liftSp K n sp)) : FnOk P w K mg base CX0 k f fd ps (liftSp K n (freshSp sp)) := by
  refine ⟨fun vs H Q E ⟨hl, Γ, g, _, q⟩ => F.len vs H (fun _ _ => True) E ⟨hl, Γ, g, m _ _ _ _ _ (fun _ _ _ _ _ _ _ => trivial) (fun _ _ z => z.elim) q⟩, fun A outer s H args us vs Q E hr e0 hb r ⟨hl, Γ, g, ⟨ds, eΓ, nd⟩, q⟩ => ?_⟩
  subst eΓ
  have S := hideL_sub s.heap H
  have gF : RG K (hideL H) (vs.map some) (ds.map .fz) := rg_fz g (fun i d v e r => r.hideL (noLs_at nd e)) (S.tabs g.tb)
  refine codeAny_mono (F.run A outer s (hideL H) args us vs (fun v H' => Aft K (hideL H) (ds.map .fz) H' (vs.map some) (ds.map .fz) ∧ ∃ r, Res K (hideL H) (vs.map some) (ds.map .fz) H' (ds.map .fz) v r ∧ frOk r fun r' => ∀ v H', Aft K H (ds.map .fz) H' (vs.map some) (ds.map .fz) → Res K H (vs.map some) (ds.map .fz) H' (ds.map .fz) v r' → Q v H') E hr (S.env e0) hb r
    ⟨hl, _, gF, m _ _ _ _ _ (fun r Γ' q v H' a rs => ?_) (fun _ _ z => z.elim) q⟩) fun r s' q => ?_
  · obtain ⟨rfl, q⟩ := q
    exact ⟨a, r, rs, q⟩
  · cases r with
    | error e => exact (show False from q).elim
    | ok fl =>
      cases fl with
      | next => exact q
      | brk => exact q
      | cont => exact q
      | ret u =>
        obtain ⟨v, H', os, bare, un, ok', rv, a, r, rs, fo⟩ := q
        have sn : Seen P w (frs outer) H (hideL H) H' s.heap s'.heap := ⟨S, un, e0.hok, ok', e0.frf, fun b u e => a.keep b u e fz_noown, a.im.tb⟩
        have f1 : ∀ b u, H b = some u → [NT u] → ovr H (hideL H) H' b = some u := fun b u e => sn.f1 b u e
        have tups : ∀ b xs, H' b = some (.tup xs) → ovr H (hideL H) H' b = some (.tup xs) := fun b xs e => sn.f2' e fun _ _ z => by cases z
        -- a frozen list that is given is new
        have new : ∀ {c : Addr} {ws : List V}, FzL K H' c ws → H c = none ∧ ∃ o, H' c = some (.frz o (.lst ws)) ∧ ovr H (hideL H) H' c = some (.frz o (.lst ws)) := fun {c ws} h => by
          rcases h with ⟨o, h⟩ | ⟨o, _, _, hk, hc, _⟩
          · have hn : H c = none := by
              cases q : H c with
              | none => rfl
              | some u0 =>
                exfalso
                rcases S.cs c u0 q with z | ⟨z, kk⟩ | ⟨od, uf, lo, z, _⟩
                · rw [sn.hid q z] at h; cases h
                · unfold hideL at z
                  rw [q] at z
                  cases kk with
                  | tup xs =>
                    have z2 := S.ky
                    have : hideL H c = some (.tup xs) := by unfold hideL; rw [q]; exact z
                    rw [un.tups _ _ this] at h; cases h
                  | lst o xs => cases z
                  | dT o o' xs => cases z
                  | tbl ps =>
                    obtain ⟨qs, y⟩ := a.im.tb.2 c ps (by unfold hideL; rw [q])
                    rw [y] at h; cases h
                  | ext φ =>
                    have y := a.keep c (.ext φ) (by unfold hideL; rw [q]) fz_noown
                    rw [y] at h; cases h
                · unfold hideL at z; rw [q] at z; cases lo <;> cases z
            exact ⟨hn, o, h, by rw [ovr_no hn]; exact h⟩
          · exact absurd hc (noLst_ok NLK hk)
        have thaw : ∀ {c : Addr} {ws : List V} {o : Obj} {r' : SV} (_ : H c = none) (_ : ovr H (hideL H) H' c = some (.frz o (.lst ws))) (_ : Res K H (vs.map some) (ds.map .fz) (upd (ovr H (hideL H) H') c (.lst ws)) (ds.map .fz) v r')
            (_ : ∀ v H', Aft K H (ds.map .fz) H' (vs.map some) (ds.map .fz) → Res K H (vs.map some) (ds.map .fz) H' (ds.map .fz) v r' → Q v H'), CR CX0 outer P w H s Q E (.ok (.ret u)) s' := fun {c ws o r'} hn ho rs q => by
          refine ⟨v, _, os, bare, Un.thaw sn.unO ho hn, HOk.thaw sn.hokO ho, rv, q v _ (aft_ext g (fun b u e => fun [NT u] => ?_) (Imm.thaw f1 sn.imm hn ho)) rs⟩
          rw [upd_ne (fun z => by rw [z, hn] at e; cases e)]
          exact f1 b u e
        unfold frOk at fo
        split at fo
        · obtain ⟨nl, q⟩ := fo
          obtain ⟨c, ws, rfl, hf, rp⟩ := (show Rep K H' _ v from rs)
          obtain ⟨hn, o, h1, h2⟩ := new hf
          refine thaw hn h2 (r' := .ow c (.lst _)) ⟨rfl, ⟨ws, upd_same, rp.tups nl fun b xs e => ?_⟩, fun b hb z => fz_noown z, fun b hb => .inr ?_⟩ (q c)
          · rw [upd_ne (fun z => by rw [z, h1] at e; cases e)]
            exact tups b xs e
          · rw [show b = c by simpa [O.fp] using hb]
            exact hn
        · obtain ⟨nd', nl, q⟩ := fo
          obtain ⟨b, ws0, rfl, ht, rp0⟩ := (show Rep K H' _ v from rs)
          obtain ⟨v1, r1, rfl, rp1, v2, r2, rfl, rp2, e3⟩ := rp0
          cases (show r2 = [] from e3)
          obtain ⟨c, ws, rfl, hf, rp⟩ := rp2
          obtain ⟨hn, o, h1, h2⟩ := new hf
          have ht : H' b = some (.tup [v1, .ref c]) := ht
          have bc : b ≠ c := fun z => by rw [z, h1] at ht; cases ht
          have keep : ∀ d xs, H' d = some (.tup xs) → upd (ovr H (hideL H) H') c (.lst ws) d = some (.tup xs) := fun d xs e => by
            rw [upd_ne (fun z => by rw [z, h1] at e; cases e)]
            exact tups d xs e
          have hnb : H b = none := by
            cases q : H b with
            | none => rfl
            | some u0 =>
              exfalso
              rcases S.cs b u0 q with z | ⟨z, kk⟩ | ⟨od, uf, lo, z, _⟩
              · rw [sn.hid q z] at ht; cases ht
              · have z0 := z
                unfold hideL at z
                rw [q] at z
                cases kk with
                | tup xs =>
                  rw [un.tups _ _ z0] at ht
                  cases ht
                  by_cases cc : ∀ x ∈ [v1, V.ref c], NL H x
                  · cases cc (.ref c) (by simp) with
                    | flat _ hh => exact hh c rfl
                    | tup _ xs e _ => rw [hn] at e; cases e
                  · have z1 := z0
                    unfold hideL at z1
                    rw [q] at z1
                    simp only [if_neg cc] at z1
                    cases z1
                | lst o xs => cases z
                | dT o o' xs => cases z
                | tbl ps =>
                  obtain ⟨qs, y⟩ := a.im.tb.2 b ps z0
                  rw [y] at ht; cases ht
                | ext φ =>
                  have y := a.keep b (.ext φ) z0 fz_noown
                  rw [y] at ht; cases ht
              · unfold hideL at z; rw [q] at z; cases lo <;> cases z
          refine thaw hn h2 (r' := .ow b (.nest .tup [.d _, .o c (.lst _)])) ⟨rfl, ⟨[v1, .ref c], keep b _ ht, ⟨v1, _, rfl, rp1.tups nd' keep, .ref c, [], rfl, ⟨rfl, ws, upd_same, rp.tups nl keep⟩, rfl⟩, ?_⟩, fun b hb z => fz_noown z, fun x hx => .inr ?_⟩ (q b c)
          · simp [fps, C.fp, O.fp, bc]
          · have : x = b ∨ x = c := by simpa [O.fp, fps, C.fp] using hx
            rcases this with rfl | rfl
            · exact hnb
            · exact hn
        · obtain ⟨nd', q⟩ := fo
          exact ⟨v, _, os, bare, sn.unO, sn.hokO, rv, q v _ (aft_ext g f1 sn.imm) (show Rep K _ _ v from Rep.tups rs nd' tups)⟩
        · exact fo.elim
end

/-! ### VIEW -/
mutual
/-- the data in what is one's own -/
def viewO : O → Option D
  | .lst ds => some (.list ds)
  | .dT kvs => some (dkD kvs)
  | .nest .tup cs => (viewCs cs).map .tuple
  | .nest .lst cs => (viewCs cs).map .list
  | _ => none
def viewC : C → Option D
  | .d x => some x
  | .o _ u => viewO u
  | .no => none
def viewCs : List C → Option (List D)
  | [] => some []
  | c :: cs => (viewC c).bind fun d => (viewCs cs).map fun ds => d :: ds
end
def viewS : SV → Option D
  | .fz d => some d
  | .ow _ o => viewO o
  | _ => none
def viewG : G → Option (List D)
  | [] => some []
  | s :: Γ => (viewS s).bind fun d => (viewG Γ).map fun ds => d :: ds
def viewSp (sp : SpD) : SpD := fun Γ Q _ => ∃ ds, viewG Γ = some ds ∧ sp (ds.map .fz) (fun r Γ' => ∃ d, r = .fz d ∧ noL d = true ∧ Q (.fz d) Γ) fun _ _ => False
theorem ms_view {sp : SpD} (m : MonoSp sp) : MonoSp (viewSp sp) := fun Γ Q Q' E E' h _ ⟨ds, c, q⟩ => ⟨ds, c, m _ _ _ _ _ (fun r Γ' ⟨d, e, n, q⟩ => ⟨d, e, n, h _ _ q⟩) (fun _ _ z => z) q⟩
def viewH (h : Heap) (H : Hp) : Hp := fun b => match H b with
  | some (.lst ws) => (h.get? b).map fun od => .frz od (.lst ws)
  | some (.dT ws) => (h.get? b).map fun od => .frz od (.frz od (.dT ws))
  | some (.tup xs) => some (.tup xs)
  | some (.frz o (.lst xs)) => some (.frz o (.lst xs))
  | some (.frz o (.frz o' (.dT xs))) => some (.frz o (.frz o' (.dT xs)))
  | some (.tbl ps) => some (.tbl ps)
  | some (.ext φ) => some (.ext φ)
  | _ => none
theorem viewH_sub (h : Heap) (H : Hp) : Sub h H (viewH h H) := by
  refine ⟨fun b u e => ?_, fun b e => ?_, fun b ks e => ?_, fun b ps e => ?_, fun b φ e => ?_⟩
  · unfold viewH
    rw [e]
    cases u with
    | lst ws =>
      cases q : h.get? b with
      | none => exact .inl rfl
      | some od => exact .inr (.inr ⟨od, _, .lst ws, rfl, rfl⟩)
    | dT ws =>
      cases q : h.get? b with
      | none => exact .inl rfl
      | some od => exact .inr (.inr ⟨od, _, .dT ws, rfl, rfl⟩)
    | tup xs => exact .inr (.inl ⟨rfl, .tup xs⟩)
    | tbl ps => exact .inr (.inl ⟨rfl, .tbl ps⟩)
    | ext φ => exact .inr (.inl ⟨rfl, .ext φ⟩)
    | frz o u =>
      cases u with
      | lst xs => exact .inr (.inl ⟨rfl, .lst o xs⟩)
      | frz o' u =>
        cases u with
        | dT xs => exact .inr (.inl ⟨rfl, .dT o o' xs⟩)
        | _ => exact .inl rfl
      | _ => exact .inl rfl
    | _ => exact .inl rfl
  · unfold viewH; rw [e]
  · unfold viewH; rw [e]
  · unfold viewH; rw [e]
  · unfold viewH; rw [e]
theorem viewH_imr (h : Heap) (H : Hp) : Imr H (viewH h H) := by
  refine ⟨fun b xs e => ?_, fun b o xs e => ?_, fun b o xs e => ?_⟩
  · unfold viewH; rw [e]
  · unfold viewH; rw [e]
  · unfold viewH; rw [e]
section
variable {P : Program} {w : World} {K : PySem.W.Frag} {mg : Str → Option Value} {base : Heap} {k n : Nat} {f : Addr} {fd : FuncData} {ps : List Str} {sp : SpD}
mutual
theorem OwnOk.view {H : Hp} {h : Heap} (ok : HOk P w H h) : ∀ {p : Addr} {o : O} {d : D}, OwnOk K H p o → viewO o = some d → Rep K (viewH h H) d (.ref p)
  | p, .lst ds, d, ⟨vs, e, r⟩, z => by
    cases (show some (PyData.list ds) = some d from z)
    obtain ⟨_, its, m, _, g⟩ := ok p _ e
    exact ⟨p, vs, rfl, .inl ⟨_, by unfold viewH; rw [e]; show (h.get? p).map _ = _; rw [g]; rfl⟩, r.imr (viewH_imr h H)⟩
  | p, .dT kvs, d, ⟨vs, e, r⟩, z => by
    cases (show some (dkD kvs) = some d from z)
    obtain ⟨_, _, _, _, o, _, _, g, _⟩ := ok p _ e
    exact ⟨p, o, vs, rfl, by unfold viewH; rw [e]; show (h.get? p).map _ = _; rw [g]; rfl, of_prep (r.imr (viewH_imr h H))⟩
  | p, .dI kvs, d, _, z => by cases z
  | p, .dR kvs, d, _, z => by cases z
  | p, .tup ds, d, _, z => by cases z
  | p, .nest sh cs, d, ⟨vs, e, r, nd⟩, z => by
    cases sh with
    | tup =>
      cases q : viewCs cs with
      | none => rw [show viewO (.nest .tup cs) = (viewCs cs).map .tuple by rw [viewO], q] at z; cases z
      | some ds =>
        rw [show viewO (.nest .tup cs) = (viewCs cs).map .tuple by rw [viewO], q] at z
        cases z
        exact ⟨p, vs, rfl, by show viewH h H p = _; unfold viewH; rw [show H p = some (.tup vs) from e], ChOks.view ok r q⟩
    | lst =>
      cases q : viewCs cs with
      | none => rw [show viewO (.nest .lst cs) = (viewCs cs).map .list by rw [viewO], q] at z; cases z
      | some ds =>
        rw [show viewO (.nest .lst cs) = (viewCs cs).map .list by rw [viewO], q] at z
        cases z
        have e : H p = some (.lst vs) := e
        obtain ⟨_, its, m, _, g⟩ := ok p _ e
        exact ⟨p, vs, rfl, .inl ⟨_, by unfold viewH; rw [e]; show (h.get? p).map _ = _; rw [g]; rfl⟩, ChOks.view ok r q⟩
    | ins c dx ns => cases z
    | dS ks => cases z
theorem ChOk.view {H : Hp} {h : Heap} (ok : HOk P w H h) : ∀ {c : C} {v : V} {d : D}, ChOk K H c v → viewC c = some d → Rep K (viewH h H) d v
  | .no, v, d, _, z => by cases z
  | .d x, v, d, r, z => by
    cases (show some x = some d from z)
    exact Rep.imr (show Rep K H x v from r) (viewH_imr h H)
  | .o p u, v, d, ⟨e, r⟩, z => by
    subst e
    exact OwnOk.view ok r (by rw [viewC] at z; exact z)
theorem ChOks.view {H : Hp} {h : Heap} (ok : HOk P w H h) : ∀ {cs : List C} {vs : List V} {ds : List D}, ChOks K H cs vs → viewCs cs = some ds → Reps K (viewH h H) ds vs
  | [], vs, ds, r, z => by
    rw [viewCs] at z
    cases z
    exact r
  | c :: cs, vs, ds, ⟨v, r, e, h1, h2⟩, z => by
    rw [viewCs] at z
    cases q1 : viewC c with
    | none => rw [q1] at z; cases z
    | some d =>
      rw [q1] at z
      cases q2 : viewCs cs with
      | none => rw [q2] at z; cases z
      | some ds' =>
        rw [q2] at z
        cases z
        exact ⟨v, r, e, ChOk.view ok h1 q1, ChOks.view ok h2 q2⟩
end
theorem viewG_at : ∀ {Γ : G} {ds : List D} {i : Nat} {d : D}, viewG Γ = some ds → ds[i]? = some d → ∃ s, Γ[i]? = some s ∧ viewS s = some d
  | [], ds, i, d, z, e => by cases z; simp at e
  | s :: Γ, ds, i, d, z, e => by
    rw [viewG] at z
    cases q1 : viewS s with
    | none => rw [q1] at z; cases z
    | some d0 =>
      rw [q1] at z
      cases q2 : viewG Γ with
      | none => rw [q2] at z; cases z
      | some ds' =>
        rw [q2] at z
        cases z
        cases i with
        | zero => simp at e; subst e; exact ⟨s, rfl, q1⟩
        | succ i => exact viewG_at (i := i) q2 (by simpa using e)
theorem viewG_len : ∀ {Γ : G} {ds : List D}, viewG Γ = some ds → ds.length = Γ.length
  | [], ds, z => by cases z; rfl
  | s :: Γ, ds, z => by
    rw [viewG] at z
    cases q1 : viewS s with
    | none => rw [q1] at z; cases z
    | some d0 =>
      rw [q1] at z
      cases q2 : viewG Γ with
      | none => rw [q2] at z; cases z
      | some ds' =>
        rw [q2] at z
        cases z
        simp [viewG_len q2]
theorem rg_view {H : Hp} {h : Heap} {σ : Sl} {Γ : G} {ds : List D} (ok : HOk P w H h) (g : RG K H σ Γ) (z : viewG Γ = some ds) : RG K (viewH h H) σ (ds.map .fz) := by
  refine ⟨by rw [List.length_map, viewG_len z]; exact g.len, fun i d e => ?_, fun i p o e => absurd (own_p e) fz_noown, fun i v e => ?_, one_mk fun i j p q o u a e => absurd (own_p e) fz_noown, (viewH_sub h H).tabs g.tb⟩
  · rw [List.getElem?_map] at e
    cases q : ds[i]? with
    | none => rw [q] at e; cases e
    | some d' =>
      rw [q] at e
      cases e
      obtain ⟨s, e1, e2⟩ := viewG_at z q
      cases s with
      | fz d0 =>
        cases e2
        obtain ⟨v, z1, r⟩ := g.fz _ _ e1
        exact ⟨v, z1, r.imr (viewH_imr h H)⟩
      | ow p o =>
        obtain ⟨z1, r⟩ := g.ow _ _ _ e1
        exact ⟨_, z1, r.view ok e2⟩
      | no => cases e2
      | raw v => cases e2
      | bw i => cases e2
  · rw [List.getElem?_map] at e
    cases q : ds[i]? with
    | none => rw [q] at e; cases e
    | some d' => rw [q] at e; cases e
theorem view_fn (hn : ps.length = n) (m : MonoSp sp) (F : FnOk P w K mg base CX0 k f fd ps (liftSp K n sp)) : FnOk P w K mg base CX0 k f fd ps (liftSp K n (viewSp sp)) := by
  refine ⟨fun vs H Q E h => h.1.trans hn.symm, fun A outer s H args us vs Q E hr e0 hb r ⟨hl, Γ, g, ds, z, q⟩ => ?_⟩
  have S := viewH_sub s.heap H
  have gF := rg_view e0.hok g z
  have c0 := F.run A outer s (viewH s.heap H) args us vs (fun v H' => ((∀ b u, viewH s.heap H b = some u → [NT u] → H' b = some u) ∧ TbOk (viewH s.heap H) H') ∧ ∃ d, Rep K H' d v ∧ noL d = true ∧ ∀ v H', Aft K H Γ H' (vs.map some) Γ → Rep K H' d v → Q v H') E hr (S.env e0) hb r
    ⟨hl, _, gF, m _ _ _ _ _ (fun r Γ' h v H' a rs => by
      obtain ⟨d, e, nd, q⟩ := h
      subst e
      exact ⟨⟨fun b u e => a.keep b u e fz_noown, a.im.tb⟩, d, rs, nd, q⟩) (fun _ _ z => z.elim) q⟩
  refine codeAny_mono c0 fun r s' q => ?_
  cases r with
  | error e => exact (show False from q).elim
  | ok fl =>
    cases fl with
    | next => exact q
    | brk => exact q
    | cont => exact q
    | ret u =>
      obtain ⟨v, H', os, bare, un, ok', rv, ⟨kp, tb⟩, d, rs, nd, q⟩ := q
      have sn : Seen P w (frs outer) H (viewH s.heap H) H' s.heap s'.heap := ⟨S, un, e0.hok, ok', e0.frf, kp, tb⟩
      exact ⟨v, _, os, bare, sn.unO, sn.hokO, rv, q v _ (aft_ext g (fun b u e => sn.f1 b u e) sn.imm) (Rep.tups rs nd fun b xs e => sn.f2' e fun _ _ z => by cases z)⟩
theorem DefOk.fresh {x : Str} (NLK : noLstIn K = true) (F : DefOk P w K mg base k x ps n sp) : DefOk P w K mg base k x ps n (freshSp sp) := by
  obtain ⟨f, fd, h1, h2⟩ := F.ok
  exact ⟨⟨f, fd, fresh_fn NLK F.ms h1, h2⟩, ms_fresh F.ms⟩
theorem DefOk.view {x : Str} (F : DefOk P w K mg base k x ps n sp) (hn : ps.length = n := by rfl) : DefOk P w K mg base k x ps n (viewSp sp) := by
  obtain ⟨f, fd, h1, h2⟩ := F.ok
  exact ⟨⟨f, fd, view_fn hn F.ms h1, h2⟩, ms_view F.ms⟩
theorem DefKw.fresh {x : Str} {ks : List Str} (NLK : noLstIn K = true) (F : DefKw P w K mg base k x ps n ks sp) : DefKw P w K mg base k x ps n ks (freshSp sp) := by
  obtain ⟨f, fd, h1, h2⟩ := F.ok
  exact ⟨⟨f, fd, fresh_fn NLK F.ms h1, h2⟩, ms_fresh F.ms⟩
theorem DefKw.view {x : Str} {ks : List Str} (F : DefKw P w K mg base k x ps n ks sp) (hn : ps.length = n + ks.length := by rfl) : DefKw P w K mg base k x ps n ks (viewSp sp) := by
  obtain ⟨f, fd, h1, h2⟩ := F.ok
  exact ⟨⟨f, fd, view_fn hn F.ms h1, h2⟩, ms_view F.ms⟩
theorem DefDf.fresh {x : Str} {dD : List D} (NLK : noLstIn K = true) (F : DefDf P w K mg base k x ps n dD sp) : DefDf P w K mg base k x ps n dD (freshSp sp) := by
  obtain ⟨f, fd, ds, dvs, h1, h2⟩ := F.ok
  exact ⟨⟨f, fd, ds, dvs, fresh_fn NLK F.ms h1, h2⟩, ms_fresh F.ms⟩
theorem DefDf.view {x : Str} {dD : List D} (F : DefDf P w K mg base k x ps n dD sp) (hn : ps.length = n := by rfl) : DefDf P w K mg base k x ps n dD (viewSp sp) := by
  obtain ⟨f, fd, ds, dvs, h1, h2⟩ := F.ok
  exact ⟨⟨f, fd, ds, dvs, view_fn hn F.ms h1, h2⟩, ms_view F.ms⟩
end
end DL
/-! DL44: things of one's own that hold things of one's own: displays of lists, loops that move them out, methods of what is held, is None. -/
namespace DL
open PySem PySem.Spec PyProof.Rows L2
theorem fps_split : ∀ {cs : List C} {k : Nat} {c : C}, cs[k]? = some c → ∃ l r, fps cs = l ++ (c.fp ++ r) ∧ ∀ c', fps (cs.set k c') = l ++ (C.fp c' ++ r)
  | [], _, _, e => by simp at e
  | x :: cs, 0, c, e => by
    simp at e; subst e
    exact ⟨[], fps cs, by rw [fps]; rfl, fun c' => by rw [List.set_cons_zero, fps]; rfl⟩
  | x :: cs, k + 1, c, e => by
    obtain ⟨l, r, h1, h2⟩ := fps_split (cs := cs) (k := k) (c := c) (by simpa using e)
    exact ⟨x.fp ++ l, r, by rw [fps, h1, List.append_assoc], fun c' => by rw [List.set_cons_succ, fps, h2, List.append_assoc]⟩
section
variable {K : PySem.W.Frag} {H H1 H2 : Hp} {σ σ' : Sl} {Γ Γ' Γ1 : G}
theorem ChOks.at_ : ∀ {cs : List C} {vs : List V} {k : Nat} {c : C}, ChOks K H cs vs → cs[k]? = some c → ∃ v, vs[k]? = some v ∧ ChOk K H c v
  | [], _, _, _, _, e => by simp at e
  | x :: cs, _, 0, c, h, e => by
    obtain ⟨v, r, rfl, h1, _⟩ := h
    simp at e; subst e
    exact ⟨v, rfl, h1⟩
  | x :: cs, _, k + 1, c, h, e => by
    obtain ⟨v, r, rfl, _, h2⟩ := h
    obtain ⟨u, e1, e2⟩ := ChOks.at_ (k := k) h2 (by simpa using e)
    exact ⟨u, by simpa using e1, e2⟩
theorem ChOks.len : ∀ {cs : List C} {vs : List V}, ChOks K H cs vs → vs.length = cs.length
  | [], _, h => by rw [show _ = [] from h]; rfl
  | _ :: cs, _, h => by
    obtain ⟨v, r, rfl, _, h2⟩ := h
    simp [ChOks.len h2]
theorem ChOks.no : ∀ {cs : List C} {vs : List V} (k : Nat), ChOks K H cs vs → ChOks K H (cs.set k .no) vs
  | [], _, _, h => h
  | x :: cs, _, 0, h => by
    obtain ⟨v, r, rfl, _, h2⟩ := h
    exact ⟨v, r, rfl, trivial, h2⟩
  | x :: cs, _, k + 1, h => by
    obtain ⟨v, r, rfl, h1, h2⟩ := h
    exact ⟨v, r, rfl, h1, ChOks.no k h2⟩
/-- another child at a place, the other ones as they were -/
theorem ChOks.chg {c' : C} {v : V} : ∀ {cs : List C} {vs : List V} {k : Nat}, ChOks K H cs vs → vs[k]? = some v → ChOk K H2 c' v → (∀ (j : Nat) c v, j ≠ k → cs[j]? = some c → ChOk K H c v → ChOk K H2 c v) → ChOks K H2 (cs.set k c') vs
  | [], _, k, h, e, _, _ => by rw [show _ = [] from h] at e; simp at e
  | x :: cs, _, 0, h, e, z, o => by
    obtain ⟨u, r, rfl, _, h2⟩ := h
    simp at e; subst e
    refine ⟨_, r, rfl, z, ?_⟩
    have go : ∀ {ds : List C} {us : List V}, (∀ (j : Nat) c, ds[j]? = some c → cs[j]? = some c ∨ True) → (∀ c, c ∈ ds → ∀ v, ChOk K H c v → ChOk K H2 c v) → ChOks K H ds us → ChOks K H2 ds us := by
      intro ds
      induction ds with
      | nil => intro us _ _ h; exact h
      | cons d ds ih =>
        intro us h0 h1 h
        obtain ⟨v, r, rfl, a, b⟩ := h
        exact ⟨v, r, rfl, h1 d List.mem_cons_self v a, ih (fun _ _ _ => .inr trivial) (fun c hc => h1 c (List.mem_cons_of_mem _ hc)) b⟩
    refine go (fun _ _ _ => .inr trivial) (fun c hc v => ?_) h2
    obtain ⟨j, ej⟩ := List.getElem?_of_mem hc
    exact o (j + 1) c v (by omega) (by simpa using ej)
  | x :: cs, _, k + 1, h, e, z, o => by
    obtain ⟨u, r, rfl, h1, h2⟩ := h
    exact ⟨u, r, rfl, o 0 x u (by omega) rfl h1, ChOks.chg (k := k) h2 (by simpa using e) z fun j c v n q => o (j + 1) c v (by omega) (by simpa using q)⟩
theorem set_at {i j : Nat} {s t : SV} (h : (Γ.set i s)[j]? = some t) : (j = i ∧ t = s) ∨ (j ≠ i ∧ Γ[j]? = some t) := by
  by_cases z : j = i
  · subst z
    rcases Nat.lt_or_ge j Γ.length with q | q
    · rw [List.getElem?_set_self q] at h
      exact .inl ⟨rfl, (Option.some.inj h).symm⟩
    · rw [List.getElem?_eq_none (by rw [List.length_set]; exact q)] at h
      cases h
  · rw [List.getElem?_set_ne (Ne.symm z)] at h
    exact .inr ⟨z, h⟩
/-- what is held is moved out into the slot x -/
theorem aft_move {i x k : Nat} {p a : Addr} {sh : Sh} {cs : List C} {u : O} (af : Aft K H Γ H1 σ' Γ') (e : Γ'[i]? = some (.ow p (.nest sh cs))) (ek : cs[k]? = some (.o a u)) (hx : x ≠ i) :
    Aft K H Γ H1 (σ'.set x (some (.ref a))) ((Γ'.set i (.ow p (.nest sh (cs.set k .no)))).set x (.ow a u)) := by
  obtain ⟨z1, vs, z2, z3, nd⟩ := af.rg.ow _ _ _ e
  obtain ⟨v, ev, rfl, ok⟩ := z3.at_ ek
  obtain ⟨l, r, f1, f2⟩ := fps_split ek
  have f2 := f2 .no
  simp only [C.fp, List.nil_append] at f1 f2
  have ndx : (p :: (l ++ ((a :: u.fp) ++ r))).Nodup := by rw [← f1]; exact nd
  have sub1 : ∀ b ∈ a :: u.fp, b ∈ p :: fps cs := fun b hb => by rw [f1]; exact List.mem_cons_of_mem _ (List.mem_append_right _ (List.mem_append_left _ hb))
  have sub2 : ∀ b ∈ p :: fps (cs.set k .no), b ∈ p :: fps cs := fun b hb => by
    rw [f2] at hb
    rw [f1]
    rcases List.mem_cons.mp hb with z | hb
    · rw [z]; exact List.mem_cons_self
    · rcases List.mem_append.mp hb with z | z
      · exact List.mem_cons_of_mem _ (List.mem_append_left _ z)
      · exact List.mem_cons_of_mem _ (List.mem_append_right _ (List.mem_append_right _ z))
  have dis : ∀ b ∈ a :: u.fp, b ∉ p :: fps (cs.set k .no) := fun b hb hc => by
    rw [f2] at hc
    rw [List.nodup_cons, List.nodup_append, List.nodup_append] at ndx
    obtain ⟨n1, n2, ⟨n3, n4, n5⟩, n6⟩ := ndx
    rcases List.mem_cons.mp hc with z | hc
    · subst z
      exact n1 (List.mem_append_right _ (List.mem_append_left _ hb))
    · rcases List.mem_append.mp hc with z | z
      · exact n6 b z b (List.mem_append_left _ hb) rfl
      · exact n5 b hb b z rfl
  have nd2 : (p :: fps (cs.set k .no)).Nodup := by
    rw [f2]
    refine List.Sublist.nodup ?_ ndx
    exact List.Sublist.cons₂ _ (List.Sublist.append (List.Sublist.refl _) (List.sublist_append_right _ _))
  have at_ : ∀ {j : Nat} {s : SV}, ((Γ'.set i (.ow p (.nest sh (cs.set k .no)))).set x (.ow a u))[j]? = some s → (j = x ∧ s = .ow a u) ∨ (j ≠ x ∧ j = i ∧ s = .ow p (.nest sh (cs.set k .no))) ∨ (j ≠ x ∧ j ≠ i ∧ Γ'[j]? = some s) := fun {j s} h => by
    rcases set_at h with h | ⟨n, h⟩
    · exact .inl h
    · rcases set_at h with h | ⟨m, h⟩
      · exact .inr (.inl ⟨n, h⟩)
      · exact .inr (.inr ⟨n, m, h⟩)
  have old : ∀ {j : Nat} {q : Addr} {o : O} {b : Addr}, ((Γ'.set i (.ow p (.nest sh (cs.set k .no)))).set x (.ow a u))[j]? = some (.ow q o) → b ∈ q :: o.fp → ∃ q' o', Γ'[if j = x then i else j]? = some (.ow q' o') ∧ b ∈ q' :: o'.fp := fun {j q o b} h hb => by
    rcases at_ h with ⟨rfl, z⟩ | ⟨n, rfl, z⟩ | ⟨n, m, z⟩
    · cases z
      rw [if_pos rfl]
      exact ⟨_, _, e, sub1 b hb⟩
    · cases z
      rw [if_neg n]
      exact ⟨_, _, e, sub2 b (by simpa [O.fp] using hb)⟩
    · rw [if_neg n]
      exact ⟨_, _, z, hb⟩
  have up : ∀ {j : Nat} {v : V}, j ≠ x → σ'[j]? = some (some v) → (σ'.set x (some (.ref a)))[j]? = some (some v) := fun {j v} n h => by
    rw [List.getElem?_set_ne (Ne.symm n)]; exact h
  refine ⟨af.keep, ⟨by rw [List.length_set, List.length_set, List.length_set]; exact af.rg.len, fun j d h => ?_, fun j q o h => ?_, fun j v h => ?_, one_mk fun j j' q q' o o' b h h' hb hb' => ?_, af.rg.tb⟩, fun b hb => ?_, af.im⟩
  · rcases at_ h with ⟨_, z⟩ | ⟨_, _, z⟩ | ⟨n, m, z⟩
    · cases z
    · cases z
    · obtain ⟨v, h1, h2⟩ := af.rg.fz _ _ z
      exact ⟨v, up n h1, h2⟩
  · rcases at_ h with ⟨rfl, z⟩ | ⟨n, rfl, z⟩ | ⟨n, m, z⟩
    · cases z
      have hj : j < σ'.length := by
        rw [← af.rg.len]
        rcases Nat.lt_or_ge j Γ'.length with q | q
        · exact q
        · rw [List.getElem?_eq_none (by rw [List.length_set, List.length_set]; exact q)] at h; cases h
      exact ⟨by rw [List.getElem?_set_self hj], ok⟩
    · cases z
      exact ⟨up n z1, vs, z2, z3.no k, nd2⟩
    · obtain ⟨h1, h2⟩ := af.rg.ow _ _ _ z
      exact ⟨up n h1, h2⟩
  · rcases at_ h with ⟨_, z⟩ | ⟨_, _, z⟩ | ⟨n, m, z⟩
    · cases z
    · cases z
    · exact up n (af.rg.raw _ _ z)
  · obtain ⟨q1, o1, y1, w1⟩ := old h hb
    obtain ⟨q2, o2, y2, w2⟩ := old h' hb'
    have := af.rg.one' y1 y2 w1 w2
    by_cases c1 : j = x
    · by_cases c2 : j' = x
      · rw [c1, c2]
      · rw [if_pos c1, if_neg c2] at this
        exfalso
        rcases at_ h with ⟨_, z⟩ | ⟨n, _, _⟩ | ⟨n, _, _⟩
        · rcases at_ h' with ⟨n', _⟩ | ⟨_, _, z'⟩ | ⟨_, n', _⟩
          · exact c2 n'
          · cases z; cases z'
            exact dis b hb (by simpa [O.fp] using hb')
          · exact n' this.symm
        · exact n c1
        · exact n c1
    · by_cases c2 : j' = x
      · rw [if_neg c1, if_pos c2] at this
        exfalso
        rcases at_ h' with ⟨_, z⟩ | ⟨n, _, _⟩ | ⟨n, _, _⟩
        · rcases at_ h with ⟨n', _⟩ | ⟨_, _, z'⟩ | ⟨_, n', _⟩
          · exact c1 n'
          · cases z; cases z'
            exact dis b hb' (by simpa [O.fp] using hb)
          · exact n' this
        · exact n c2
        · exact n c2
      · rw [if_neg c1, if_neg c2] at this
        exact this
  · obtain ⟨j, q, o, h, hb⟩ := own_el hb
    obtain ⟨q1, o1, y1, w1⟩ := old h hb
    exact af.sh b (own_mk y1 w1)
/-- what the slot i holds is changed at some of its own -/
theorem aft_updG {i : Nat} {p : Addr} {o o' : O} (g : RG K H σ Γ) (a : Aft K H Γ H1 σ Γ1) (e : Γ1[i]? = some (.ow p o)) (k : ∀ q u, q ∉ p :: o.fp → H1 q = some u → H2 q = some u) (im : Imm H1 H2) (ok : OwnOk K H2 p o') (hfp : ∀ b ∈ o'.fp, b ∈ o.fp) :
    Aft K H Γ H2 σ (Γ1.set i (.ow p o')) := by
  have z1 := (a.rg.ow _ _ _ e).1
  have sub : ∀ b ∈ p :: o'.fp, b ∈ p :: o.fp := fun b hb => by
    rcases List.mem_cons.mp hb with z | z
    · rw [z]; exact List.mem_cons_self
    · exact List.mem_cons_of_mem _ (hfp b z)
  have ne : ∀ {j : Nat} {q : Addr} {o1 : O}, j ≠ i → Γ1[j]? = some (.ow q o1) → ∀ b ∈ q :: o1.fp, b ∉ p :: o.fp := fun {j q o1} n z b hb z2 => n (a.rg.one' z e hb z2)
  refine ⟨fun c u h n => ?_, ⟨by rw [List.length_set]; exact a.rg.len, fun j d q => ?_, fun j q o1 z => ?_, fun j v q => ?_, one_mk fun j j' q q' o1 o2 b w w' ha hb => ?_, a.rg.tbm im⟩, fun c hc => ?_, a.im.trans im⟩
  · have nc : c ∉ p :: o.fp := fun z => by
      rcases a.sh c (own_mk e z) with f | f
      · exact n f
      · rw [f] at h; cases h
    intro _
    exact k c u nc (a.keep c u h n)
  · rcases set_at q with ⟨_, z⟩ | ⟨_, z⟩
    · cases z
    · obtain ⟨v, h1, h2⟩ := a.rg.fz _ _ z
      exact ⟨v, h1, h2.imm im⟩
  · rcases set_at z with ⟨rfl, y⟩ | ⟨n, y⟩
    · cases y
      exact ⟨z1, ok⟩
    · obtain ⟨h1, h2⟩ := a.rg.ow _ _ _ y
      exact ⟨h1, h2.keep (fun b hb u => k b u (ne n y b hb)) im⟩
  · rcases set_at q with ⟨_, z⟩ | ⟨_, z⟩
    · cases z
    · exact a.rg.raw _ _ z
  · rcases set_at w with ⟨rfl, y⟩ | ⟨n, y⟩
    · rcases set_at w' with ⟨rfl, y'⟩ | ⟨n', y'⟩
      · rfl
      · cases y
        exact absurd (sub b ha) (ne n' y' b hb)
    · rcases set_at w' with ⟨rfl, y'⟩ | ⟨n', y'⟩
      · cases y'
        exact absurd (sub b hb) (ne n y b ha)
      · exact a.rg.one' y y' ha hb
  · obtain ⟨j, q0, o1, q, ha⟩ := own_el hc
    rcases set_at q with ⟨rfl, y⟩ | ⟨n, y⟩
    · cases y
      exact a.sh c (own_mk e (sub c ha))
    · exact a.sh c (own_mk y ha)
end
/-! ### a display of three lists of one's own -/
def tdList3O (t1 t2 t3 : TD) : TD := fun Γ Q => t1 Γ fun r1 Γ1 => t2 Γ1 fun r2 Γ2 => t3 Γ2 fun r3 Γ3 => match r1, r2, r3 with
  | .ow a1 (.lst d1), .ow a2 (.lst d2), .ow a3 (.lst d3) => ∀ p, Q (.ow p (.nest .lst [.o a1 (.lst d1), .o a2 (.lst d2), .o a3 (.lst d3)])) Γ3
  | _, _, _ => False
section
variable {X : Cx} {e1 e2 e3 : Expr} {t1 t2 t3 : TD} {pos : Pos}
theorem pd_list3O (h1 : PD X e1 t1) (h2 : PD X e2 t2) (h3 : PD X e3 t3) (s1 : starEach [e1, e2, e3] X.env = (false, eval e1 X.env) :: starEach [e2, e3] X.env := by rfl) (s2 : starEach [e2, e3] X.env = (false, eval e2 X.env) :: starEach [e3] X.env := by rfl) (s3 : starEach [e3] X.env = (false, eval e3 X.env) :: starEach [] X.env := by rfl) :
    PD X (.List [e1, e2, e3] pos) (tdList3O t1 t2 t3) := by
  refine ⟨PE.imp (pe_lst (pa_cons h1.run (pa_cons h2.run (pa_cons h3.run pa_nil s3) s2) s1)) fun σ H Q ⟨Γ, g, q0⟩ => ⟨Γ, g, h1.mono _ _ _ (fun r1 Γ1 q1 v1 H1 a1 z1 => ?_) q0⟩, fun Γ Q Q' hq => h1.mono _ _ _ fun r1 Γ1 => h2.mono _ _ _ fun r2 Γ2 => h3.mono _ _ _ fun r3 Γ3 q => ?_⟩
  · refine ⟨Γ1, a1.rg, h2.mono _ _ _ (fun r2 Γ2 q2 v2 H2 a2 z2 => ?_) q1⟩
    refine ⟨Γ2, a2.rg, h3.mono _ _ _ (fun r3 Γ3 q3 v3 H3 a3 z3 => ?_) q2⟩
    clear q2 q1 q0
    have q := q3
    clear q3
    split at q
    · rename_i b1 d1 b2 d2 b3 d3
      refine ⟨le_line (show (3 : Nat) ≤ 1000 by decide), fun p hp => ?_⟩
      have a12 := a1.trans g a2
      have a13 := a12.trans g a3
      have y1 := Res.later g a12.rg a3 (Res.later g a1.rg a2 z1)
      have y2 := Res.later a1.rg a2.rg a3 z2
      have m1 := Res.later g a1.rg a2 z1
      have sm : Same H3 (upd H3 p (.lst [v1, v2, v3])) := same_upd hp
      obtain ⟨rfl, w1, n1, f1⟩ := y1
      obtain ⟨rfl, w2, n2, f2⟩ := y2
      obtain ⟨rfl, w3, n3, f3⟩ := z3
      have n12 : b1 ≠ b2 := fun z => by
        rcases z2.2.2.2 b2 List.mem_cons_self with y | y
        · exact z1.2.2.1 b1 List.mem_cons_self (by rw [z]; exact y)
        · exact z1.2.1.there b1 List.mem_cons_self (by rw [z]; exact y)
      have n13 : b1 ≠ b3 := fun z => by
        rcases f3 b3 List.mem_cons_self with y | y
        · exact m1.2.2.1 b1 List.mem_cons_self (by rw [z]; exact y)
        · exact m1.2.1.there b1 List.mem_cons_self (by rw [z]; exact y)
      have n23 : b2 ≠ b3 := fun z => by
        rcases f3 b3 List.mem_cons_self with y | y
        · exact z2.2.2.1 b2 List.mem_cons_self (by rw [z]; exact y)
        · exact z2.2.1.there b2 List.mem_cons_self (by rw [z]; exact y)
      have pn : ∀ {b : Addr} {d : List D}, OwnOk X.K H3 b (.lst d) → p ≠ b := fun {b d} w z => w.there b List.mem_cons_self (by rw [← z]; exact hp)
      refine q p _ _ (a13.trans g (Aft.same a13.rg sm)) ⟨rfl, ⟨_, upd_same, ⟨_, _, rfl, ⟨rfl, w1.keep (fun _ _ u z => sm _ _ z) (imm_same sm)⟩, _, _, rfl, ⟨rfl, w2.keep (fun _ _ u z => sm _ _ z) (imm_same sm)⟩, _, _, rfl, ⟨rfl, w3.keep (fun _ _ u z => sm _ _ z) (imm_same sm)⟩, rfl⟩, ?_⟩, fun c hc => ?_, fun c hc => ?_⟩
      · simp [fps, C.fp, O.fp, n12, n13, n23, pn w1, pn w2, pn w3]
      · have hc : c = p ∨ c = b1 ∨ c = b2 ∨ c = b3 := by simpa [O.fp, fps, C.fp] using hc
        rcases hc with rfl | rfl | rfl | rfl
        · exact fun z => a13.rg.there z hp
        · exact n1 _ List.mem_cons_self
        · exact n2 _ List.mem_cons_self
        · exact n3 _ List.mem_cons_self
      · have hc : c = p ∨ c = b1 ∨ c = b2 ∨ c = b3 := by simpa [O.fp, fps, C.fp] using hc
        rcases hc with rfl | rfl | rfl | rfl
        · exact a13.fresh (.inr hp)
        · exact f1 _ List.mem_cons_self
        · exact a1.fresh (f2 _ List.mem_cons_self)
        · exact a12.fresh (f3 _ List.mem_cons_self)
    · exact q.elim
  · split at q
    · exact fun p => hq _ _ (q p)
    · exact q
end
/-! ### a loop over a list of things of one's own: each is moved out -/
structure ForO (E : EndD) (i x : Nat) (tb : TSD) (Γ : G) : Prop where
  out : ∃ (p : Addr) (n : Nat) (inv : Nat → G → Prop), inv 0 Γ ∧ (∀ k Γ', inv k Γ' → ∃ cs, Γ'[i]? = some (.ow p (.nest .lst cs)) ∧ cs.length = n) ∧
    (∀ k Γ', k < n → inv k Γ' → ∃ cs a u, Γ'[i]? = some (.ow p (.nest .lst cs)) ∧ cs[k]? = some (.o a u) ∧ tb { E with nx := inv (k + 1), ct := inv (k + 1), bk := E.nx } ((Γ'.set i (.ow p (.nest .lst (cs.set k .no)))).set x (.ow a u))) ∧ ∀ Γ', inv n Γ' → E.nx Γ'
def tsForO (i x : Nat) (tb : TSD) : TSD := fun E Γ => MonoS tb → ForO E i x tb Γ
section
variable {X : Cx} {pos p1 p2 : Pos} {tb : TSD}
theorem pd_forO (i x : Nat) {nx ni : Str} {body : List Stmt} (hp : PassesOwn (model X.prog X.w) X.A X.env X.xe) (hc : X.calm = true) (hb : PDSs X body tb) (hN : X.N.Nodup) (ei : X.N[i]? = some ni := by rfl) (ex : X.N[x]? = some nx := by rfl)
    (hv : Vis X.env.scope ni := by first | exact Or.inl rfl | exact Or.inr (Or.inl rfl) | exact Or.inr (Or.inr rfl)) (hd : (ni == ("__debug__" : Str)) = false := by decide) (hcd : (ni == ("__classdict__" : Str)) = false := by decide)
    (hx : Loc X.env.scope nx := by first | exact Or.inl rfl | exact Or.inr rfl) (hf : X.fn nx = true ∨ X.env.scope.names.lookup nx = some .local := by first | exact .inl rfl | exact .inr rfl) (hix : x ≠ i := by decide)
    (hs : ∀ z, foldedSetIterable (.Name ni p2) X.env z = pure z := by intro _; rfl) : PDS X (.For (.Name nx p1) (.Name ni p2) body [] pos) (tsForO i x tb) := by
  refine ⟨fun W tk => PS.imp (ps_for hp hc (pi_seq (pe_var ei hv hd hcd)) (pg_name hN ex hx hf) (hb.run W tk) hs) fun D σ H ⟨Γ, g, q⟩ => ?_, fun D D' Γ h q mb => ?_⟩
  · obtain ⟨p, n, inv, i0, il, turn, last⟩ := (q hb.mono).out
    obtain ⟨cs0, e0, l0⟩ := il 0 Γ i0
    obtain ⟨s0, vs0, h0, c0, _⟩ := g.ow _ _ _ e0
    refine ⟨.ref p, s0, p, rfl, .inl ⟨vs0, .of h0, fun _ => ⟨fun k m σ' H' => m = n - k ∧ k ≤ n ∧ ∃ Γ', Aft X.K H Γ H' σ' Γ' ∧ inv k Γ', ⟨_, rfl, Nat.zero_le _, Γ, Aft.refl g, i0⟩, ?_⟩⟩⟩
    rintro k m σ' H' ⟨rfl, hk, Γ', a', i'⟩
    obtain ⟨cs, e, l⟩ := il k Γ' i'
    obtain ⟨s1, vs, h1, c1, _⟩ := a'.rg.ow _ _ _ e
    have hl : vs.length = n := by rw [c1.len, l]
    by_cases hlt : k < n
    · obtain ⟨cs2, b, u, e2, ek, tq⟩ := turn k Γ' hlt i'
      rw [e] at e2
      cases e2
      obtain ⟨v, ev, rfl, ok⟩ := c1.at_ ek
      refine .inr ⟨⟨vs, _, .of h1, ev⟩, fun σ'' H'' => ∃ Γ'', Aft X.K H Γ H'' σ'' Γ'' ∧ inv (k + 1) Γ'', fun σ'' H'' ⟨Γ'', y, z⟩ => ⟨n - (k + 1), by omega, rfl, hlt, Γ'', y, z⟩, fun w H2 y => ?_⟩
      obtain ⟨rfl, y⟩ := y
      have ew := (y vs (.of h1)).symm.trans ev
      cases ew
      have am := aft_move a' e ek hix
      refine ⟨_, am.rg, hb.mono _ _ _ ?_ tq⟩
      exact ⟨fun Γ5 i5 σ5 H5 a5 => ⟨Γ5, am.trans g a5, i5⟩, fun r Γ5 q v σ5 H5 a5 rs => q v σ5 H5 (am.trans g a5) (rs.from am), fun Γ5 q σ5 H5 a5 => q σ5 H5 (am.trans g a5), fun Γ5 i5 σ5 H5 a5 => ⟨Γ5, am.trans g a5, i5⟩, fun x Γ5 q c d σ5 H5 a5 => q c d σ5 H5 (am.trans g a5)⟩
    · have hkn : k = n := by omega
      subst hkn
      exact .inl ⟨⟨vs, .of h1, by omega⟩, last Γ' i' σ' H' a'⟩
  · obtain ⟨p, n, inv, i0, il, turn, last⟩ := (q mb).out
    exact ⟨p, n, inv, i0, il, fun k Γ' hk i' => by
      obtain ⟨cs, a, u, e, ek, z⟩ := turn k Γ' hk i'
      exact ⟨cs, a, u, e, ek, mb _ _ _ h.loop z⟩, fun Γ' i' => h.nx _ (last Γ' i')⟩
end
/-! ### x is None, of anything -/
def noneOf (Γ : G) : SV → (Bool → Prop) → Prop
  | .fz d, k => k (isNone d)
  | .ow _ _, k => k false
  | .bw i, k => match Γ[i]? with
    | some (.ow _ _) => k false
    | some (.fz d) => k (isNone d)
    | _ => False
  | _, _ => False
def tdNone (f : Bool → Bool) (ta : TD) : TD := fun Γ Q => ta Γ fun r Γ1 => noneOf Γ1 r fun b => Q (.fz (.bool (f b))) Γ1
theorem noneOf_mono {Γ : G} {r : SV} {k k' : Bool → Prop} (h : ∀ b, k b → k' b) (q : noneOf Γ r k) : noneOf Γ r k' := by
  unfold noneOf at q ⊢
  split at q <;> first | exact h _ q | (split at q <;> first | exact h _ q | exact q) | exact q
theorem noneOf_ok {K : PySem.W.Frag} {H H0 : Hp} {σ : Sl} {Γ Γ0 : G} {r : SV} {v : V} {k : Bool → Prop} (g : RG K H σ Γ) (q : Res K H0 σ Γ0 H Γ v r) (h : noneOf Γ r k) : k (decide (v = .non)) := by
  unfold noneOf at h
  split at h
  · rw [RepN.isNone (.inr q)]; exact h
  · obtain ⟨rfl, _⟩ := q; exact h
  · split at h
    · rename_i e
      have e3 := (show σ[_]? = some (some v) from q).symm.trans (g.ow _ _ _ e).1
      cases e3; exact h
    · rename_i e
      obtain ⟨u, e1, rs⟩ := g.fz _ _ e
      have e3 := (show σ[_]? = some (some v) from q).symm.trans e1
      cases e3
      rw [RepN.isNone (.inr rs)]; exact h
    · exact h.elim
  · exact h.elim
section
variable {X : Cx} {a b : Expr} {ta : TD} {pos : Pos}
theorem tdNone_mono {f : Bool → Bool} (h : Mono ta) : Mono (tdNone f ta) := fun Γ Q Q' hq => h _ _ _ fun r Γ' => noneOf_mono fun d => hq _ _
theorem pb_isO (ha : PD X a ta) (hb : PD X b (tdC .none)) (hm : behindInMarks .Is b = false := by first | rfl | exact nomark _) : PB X (.Compare a [.Is] [b] pos) (tdB (tdNone (fun b => b) ta)) := by
  refine ⟨PT.imp (pt_cmpR op_isN ha.run hb.run hm) fun σ H Q q => tTest_imp (fun σ H Q ⟨Γ, g, q⟩ => ⟨Γ, g, ha.mono _ _ _ (fun r Γ1 q v H1 a1 r1 => ?_) q⟩) (tdB_ok (tdNone_mono ha.mono) q), tdB_mono (tdNone_mono ha.mono)⟩
  refine ⟨Γ1, a1.rg, fun u H2 a2 r2 => ?_⟩
  have e : u = .non := (show Rep X.K H2 .none u from r2)
  exact ⟨e, noneOf_ok a1.rg r1 q _ H2 (a1.trans g a2) rfl⟩
theorem pb_isNotO (ha : PD X a ta) (hb : PD X b (tdC .none)) (hm : behindInMarks .IsNot b = false := by first | rfl | exact nomark _) : PB X (.Compare a [.IsNot] [b] pos) (tdB (tdNone (fun b => !b) ta)) := by
  refine ⟨PT.imp (pt_cmpR op_notN ha.run hb.run hm) fun σ H Q q => tTest_imp (fun σ H Q ⟨Γ, g, q⟩ => ⟨Γ, g, ha.mono _ _ _ (fun r Γ1 q v H1 a1 r1 => ?_) q⟩) (tdB_ok (tdNone_mono ha.mono) q), tdB_mono (tdNone_mono ha.mono)⟩
  refine ⟨Γ1, a1.rg, fun u H2 a2 r2 => ?_⟩
  have e : u = .non := (show Rep X.K H2 .none u from r2)
  exact ⟨e, noneOf_ok a1.rg r1 q _ H2 (a1.trans g a2) rfl⟩
end
/-! ### x[j].m(..) of what is held -/
def tdMtC (i j : Nat) (T : String) (g : GM) (t : TAD) : TD := fun Γ Q => match Γ[i]? with
  | some (.ow _ (.nest .tup cs0)) => (match cs0[j]? with
    | some (.o _ o0) => oTy o0 = T ∧ o0.fp = [] ∧ t Γ fun rs Γ1 => fzs rs fun ds => (match Γ1[i]? with
      | some (.ow p (.nest .tup cs)) => (match cs[j]? with
        | some (.o a o) => o.fp = [] ∧ g o ds fun z o' => Q (.fz z) (Γ1.set i (.ow p (.nest .tup (cs.set j (.o a o')))))
        | _ => False)
      | _ => False)
    | _ => False)
  | _ => False
section
variable {X : Cx} {T id : String} {name : Str} {g : GM} {x : Str} {e : Expr} {es : List Expr} {t : TAD} {p p2 ps apos cpos : Pos} {jj : Option Int}
theorem tdMtC_mono (h : MtD X T id g) (i j : Nat) (m : MonoA t) : Mono (tdMtC i j T g t) := fun Γ Q Q' hq q => by
  unfold tdMtC at q ⊢
  split at q
  · split at q
    · refine ⟨q.1, q.2.1, m _ _ _ (fun rs Γ1 => fzs_mono fun ds q => ?_) q.2.2⟩
      split at q
      · split at q
        · exact ⟨q.1, h.mono _ _ _ _ (fun z o' => hq _ _) q.2⟩
        · exact q
      · exact q
    · exact q
  · exact q
/-- the child changed -/
theorem aft_child {K : PySem.W.Frag} {H H1 H2 : Hp} {σ : Sl} {Γ Γ1 : G} {i j : Nat} {p a : Addr} {cs : List C} {o o' : O} (g : RG K H σ Γ) (af : Aft K H Γ H1 σ Γ1) (e : Γ1[i]? = some (.ow p (.nest .tup cs))) (ec : cs[j]? = some (.o a o)) (f0 : o.fp = []) (f1 : o'.fp = o.fp)
    (k : ∀ q u, q ≠ a → H1 q = some u → H2 q = some u) (im : Imm H1 H2) (ok : OwnOk K H2 a o') : Aft K H Γ H2 σ (Γ1.set i (.ow p (.nest .tup (cs.set j (.o a o'))))) := by
  obtain ⟨s1, vs, h1, c1, nd⟩ := af.rg.ow _ _ _ e
  obtain ⟨v, ev, rfl, ok0⟩ := c1.at_ ec
  obtain ⟨l, r, f2, f3⟩ := fps_split ec
  have f3 := f3 (.o a o')
  simp only [C.fp, f1] at f2 f3
  have ef : fps (cs.set j (.o a o')) = fps cs := by rw [f3, f2]
  have ha : a ∈ fps cs := by rw [f2]; exact List.mem_append_right _ (List.mem_append_left _ List.mem_cons_self)
  have pa : p ≠ a := fun z => by
    rw [List.nodup_cons] at nd
    exact nd.1 (by rw [z]; exact ha)
  have oth : ∀ (j' : Nat) c v, j' ≠ j → cs[j']? = some c → ChOk K H1 c v → ChOk K H2 c v := fun j' c v n q h => by
    refine ChOk.keepr h (fun b hb u z => k b u (fun y => ?_) z) im.r
    obtain ⟨l', r', f4, f5⟩ := fps_split q
    subst y
    -- b is both in the child j and in the child j'
    have q2 : (cs.set j' .no)[j]? = some (.o b o) := by rw [List.getElem?_set_ne n]; exact ec
    obtain ⟨l2, r2, f6, _⟩ := fps_split q2
    have hm : b ∈ fps (cs.set j' .no) := by rw [f6]; simp [C.fp]
    rw [f5 .no] at hm
    simp only [C.fp, List.nil_append] at hm
    rw [List.nodup_cons, f4, List.nodup_append, List.nodup_append] at nd
    obtain ⟨n1, n2, ⟨n3, n4, n5⟩, n6⟩ := nd
    rcases List.mem_append.mp hm with z | z
    · exact n6 b z b (List.mem_append_left _ hb) rfl
    · exact n5 b hb b z rfl
  refine aft_updG g af e (fun q u hq => k q u fun z => hq (by rw [z]; exact List.mem_cons_of_mem _ (by simpa [O.fp] using ha))) im ⟨vs, k p _ pa h1, c1.chg ev ⟨rfl, ok⟩ oth, by rw [ef]; exact nd⟩ (fun b hb => ?_)
  simp only [O.fp] at hb ⊢
  rw [ef] at hb
  exact hb
theorem pd_mtC (i j : Nat) {o : Expr} (h : MtD X T id g) (pa : PlainAttrs T) (slot : Slot T name id) (hty : typeOf (.builtin id) = pure (.type "method_descriptor")) (ho : PE X o (tOp (rIxT X.K) (tVar i) (tC (.int (j : Int))))) (ha : PAD X (e :: es) t)
    (hbase : attributeBase o name X.env (eval o X.env) = eval o X.env := by rfl)
    (hfew : ((backTo cpos (starEach (e :: es) X.env)).all (fun x => !x.1) && (backToKw cpos (keywordEach [] X.env)).all (fun x => x.1.isSome) && decide ((e :: es).length + ([] : List Keyword).length + (if ([] : List Keyword).isEmpty then 0 else 1) < 30)) = true := by rfl)
    (hline : (apos.endLine == cpos.line) = true := by rfl) (hs : starEach (e :: es) X.env = (false, eval e X.env) :: starEach es X.env := by rfl) (hpl : (backTo cpos (starEach es X.env)).any (·.1) = false := by rfl) (hT : T ≠ "?" := by decide) :
    PD X (.Call (.Attribute o name apos) (e :: es) [] cpos) (tdMtC i j T g t) := by
  obtain ⟨r, hm, hr⟩ := h.ok
  refine ⟨PE.imp (pe_bm pa slot hty hm ho ha.run hbase hfew hline hs hpl) fun σ H Q ⟨Γ, g0, q⟩ => ?_, tdMtC_mono h i j ha.mono⟩
  unfold tdMtC at q
  split at q
  · rename_i p0 cs0 e0
    split at q
    · rename_i a0 o0 e1
      obtain ⟨z1, vs0, h0, c0, nd0⟩ := g0.ow _ _ _ e0
      obtain ⟨v0, ev0, rfl, ok0⟩ := c0.at_ e1
      refine ⟨.ref p0, z1, p0, vs0, j, .ref a0, rfl, rfl, .of h0, (atD_eq (ds := vs0) (i := (j : Int))).symm.trans ev0, ok0.ty q.1 hT, Γ, g0, ha.mono _ _ _ (fun rs Γ1 q vs H1 a1 rr => ?_) q.2.2⟩
      obtain ⟨ds, rp, q⟩ := fzs_ok rr q
      split at q
      · rename_i p1 cs1 e2
        split at q
        · rename_i a1' o1 e3
          obtain ⟨w1, vs1, h1, c1, nd1⟩ := a1.rg.ow _ _ _ e2
          rw [z1] at w1
          cases w1
          obtain ⟨v1, ev1, rfl, ok1⟩ := c1.at_ e3
          have hh := a1.im p0 _ h0 (fun z => z)
          rw [show H1 p0 = some (.tup vs1) from h1] at hh
          cases hh
          rw [ev0] at ev1
          cases ev1
          obtain ⟨f0, q⟩ := q
          refine hr H1 a0 o1 ds vs Q ok1 rp (h.mono _ _ _ _ (fun z o' ⟨hf, q⟩ => ?_) (h.fl _ _ _ q))
          intro w H2 k im ok rz
          exact q w H2 (aft_child g0 a1 e2 e3 f0 hf k im ok) rz
        · exact q.elim
      · exact q.elim
    · exact q.elim
  · exact q.elim
theorem pd_mtC0 (i j : Nat) {o : Expr} (h : MtD X T id g) (pa : PlainAttrs T) (slot : Slot T name id) (hty : typeOf (.builtin id) = pure (.type "method_descriptor")) (ho : PE X o (tOp (rIxT X.K) (tVar i) (tC (.int (j : Int)))))
    (hbase : attributeBase o name X.env (eval o X.env) = eval o X.env := by rfl) (hline : (apos.endLine == cpos.line) = true := by rfl) (hT : T ≠ "?" := by decide) :
    PD X (.Call (.Attribute o name apos) [] [] cpos) (tdMtC i j T g taNil) := by
  obtain ⟨r, hm, hr⟩ := h.ok
  refine ⟨PE.imp (pe_bm0 pa slot hty hm ho hbase hline) fun σ H Q ⟨Γ, g0, q⟩ => ?_, tdMtC_mono h i j fun Γ Q Q' h q => h _ _ q⟩
  unfold tdMtC at q
  split at q
  · rename_i p0 cs0 e0
    split at q
    · rename_i a0 o0 e1
      obtain ⟨z1, vs0, h0, c0, nd0⟩ := g0.ow _ _ _ e0
      obtain ⟨v0, ev0, rfl, ok0⟩ := c0.at_ e1
      obtain ⟨q1, q2, q3⟩ := q
      refine ⟨.ref p0, z1, p0, vs0, j, .ref a0, rfl, rfl, .of h0, (atD_eq (ds := vs0) (i := (j : Int))).symm.trans ev0, ok0.ty q1 hT, ?_⟩
      simp only [taNil, fzs, e0, e1] at q3
      refine hr H a0 o0 [] [] Q ok0 rfl (h.mono _ _ _ _ (fun z o' ⟨hf, q⟩ => ?_) (h.fl _ _ _ q3.2))
      intro w H2 k im ok rz
      exact q w H2 (aft_child g0 (Aft.refl g0) e0 e1 q2 hf k im ok) rz
    · exact q.elim
  · exact q.elim
end
end DL
/-! DL45: walks over a tuple of the module. -/
namespace DL
open PySem PySem.Spec PyProof.Rows L2
/-- a name of the module that holds a tuple of ints -/
def GTup (K : PySem.W.Frag) (mg : Str → Option Value) (x : Str) (ns : List Int) : Prop := ∃ (a : Addr) (o : Obj) (its : Array Value) (n : Nat), mg x = some (.ref a) ∧ K.lookup a = some o ∧ o.cls = .type "tuple" ∧ o.data = .seq its n ∧ its.size ≤ sizeLine ∧ Vals (ns.map V.int) its.toList
def tiGT (ns : List Int) : TID := fun Γ Q => Q (ns.map .int) none Γ
theorem pid_gT {X : Cx} {tg : Expr} {x : Str} {p : Pos} {ns : List Int} (h : GTup X.K X.mg x ns) (hg : Gl X x := by rfl) (hdb : (x == ("__debug__" : Str)) = false := by decide) : PID X tg (.Name x p) (tiGT ns) := by
  obtain ⟨a, o, its, n, h1, h2, h3, h4, h5, h6⟩ := h
  have sq : ∀ H : Hp, SqT X.K H a (ns.map V.int) := fun H => .inr ⟨o, its, n, h2, h3, h4, h5, h6⟩
  refine ⟨PI.imp (pi_seq (pe_glob hg h1 (v := .ref a) rfl hdb)) fun σ H R ⟨Γ, g, q⟩ => ?_, fun Γ Q Q' h => h _ _ _⟩
  refine ⟨a, rfl, .inr ⟨_, sq H, fun hl => q _ H _ (Aft.refl g) (src_tup (by simpa using hl)) fun H2 σ2 Γ2 _ _ _ => ⟨_, sq H2, Reps.of_ints ns⟩⟩⟩
end DL
/-! DL46: sorted(t), t a tuple of ints. -/
namespace DL
open PySem PySem.Spec PyProof.Rows L2
section
variable {X : Cx}
theorem call_sortedTI : CallR X (.builtin "sorted") (fun vs H Q => ∃ (a : Addr) (ns : List Int), vs = [V.ref a] ∧ SqT X.K H a (ns.map V.int) ∧
    ∀ (ns' : List Int) (p : Addr), ns'.Perm ns → ns'.Pairwise (· ≤ ·) → H p = none → Q (.ref p) (upd H p (.lst (ns'.map V.int)))) := by
  intro pins s σ H vs us Q I r h
  obtain ⟨a, ns, rfl, hs, q⟩ := h
  obtain ⟨its, rv, ⟨o, ho, hc, n, hd⟩, hz⟩ := I.tuple hs
  rw [Vals.ref1 r]
  have hi := rv.ints
  have hl : its.length ≤ sizeLine := by rw [← rv.length]; exact hz
  refine Calls.call_function_entry PyProof.Rows.kind_sorted PyProof.Rows.plain_sorted PyProof.Rows.entry_sorted (PyProof.Rows.args_sorted1 _) ?_
  unfold Builtin.«sorted»
  refine wpAny_bind (m := checkCount "sorted" 1 1 _) (wpAny_pure ?_)
  refine wpAny_bind (wpAny_collect_seq a (.inr rfl) ho hc hd (fun h' kp => ?_) (by simpa using hl))
  have I1 : Inv X pins σ H { s with heap := h' } := I.kept (t' := s.toks) kp
  rw [show its.toArray.toList = its by simp]
  refine wpAny_bind (wpAny_newList ?_ hl)
  have hoL : (h'.push (seqObj "list" its.toArray 0)).get? h'.objs.size = some (seqObj "list" its.toArray 0) := Heap.get?_push_size _ rfl
  show wpAny _ _ _ _ _ { s with heap := h'.push (seqObj "list" its.toArray 0) }
  refine wpAny_bind (wpAny_holding (wpAny_call_entry PyProof.Rows.slot_list_sort ⟨_, hoL, rfl⟩ PyProof.Rows.entry_list_sort
    (SrtO.list_sort_ord SrtO.swo_int hoL hl (fun h2 => SrtO.ints_sortable hi h2) fun out h1 h2 => ⟨_, rfl, ?_⟩) (PyProof.Rows.args_list_sort _)))
  obtain ⟨k1, k2, k3⟩ := SrtO.ints_out hi h1 h2
  obtain ⟨ep, he'⟩ := PyProof.Rows.sortedHeap_at (vs := its) (out := out.toArray) hoL
  have hlen : ((out.map SrtO.iv).map V.int).length ≤ sizeLine := by
    rw [List.length_map, k2.length_eq]
    rw [List.length_map] at hz
    exact hz
  refine wpAny_pure ⟨_, rfl, .ref h'.objs.size, upd H h'.objs.size (.lst ((out.map SrtO.iv).map V.int)), I1.laid (t' := s.toks) (fun b u hb => ?_) (Nat.le_refl _) ⟨hlen, out, ep, vals_of_ints k1, he'⟩, rfl, q _ _ k2 k3 (I1.hok.fresh (Nat.le_refl _))⟩
  have hlt : b < h'.objs.size := Heap.lt_size hb
  rw [PyProof.Rows.sortedHeap_old (Nat.ne_of_lt hlt) (by rw [size_push']; exact Nat.lt_succ_of_lt hlt)]
  exact Heap.get?_push_of_some _ hb
def gSortIT : GC := fun ds k => match ds with
  | [.tuple es] => ∃ xs : List Int, es = xs.map .int ∧ ∀ ys : List Int, ys.Perm xs → ys.Pairwise (· ≤ ·) → k (.new (.lst (ys.map .int)))
  | _ => False
theorem cd_sortIT : CallD X (.builtin "sorted") gSortIT := by
  refine ⟨⟨_, call_sortedTI, fun H ds vs Q nd q => ?_⟩, fun ds k k' h q => ?_⟩
  · unfold gSortIT at q
    split at q
    · obtain ⟨xs, rfl, q⟩ := q
      obtain ⟨v, rfl, n⟩ := pr1 nd
      obtain ⟨a, ws, rfl, h1, h2⟩ := n.tuple
      have h1 := h1.sq (K := X.K)
      rw [h2.ints] at h1
      exact ⟨a, xs, rfl, h1, fun ys p hp hs hn => q ys hp hs _ _ (same_upd hn) ⟨rfl, p, rfl, hn, _, upd_same, Reps.of_ints ys⟩⟩
    · exact q.elim
  · unfold gSortIT at q ⊢
    split at q
    · obtain ⟨xs, e, q⟩ := q
      exact ⟨xs, e, fun ys h1 h2 => h _ (q ys h1 h2)⟩
    · exact q
end
end DL
/-! DL47: min of a list of data that are alike. -/
namespace DL
open PySem PySem.Spec PyProof.Rows L2
theorem ReadsAll.get_ {h : Heap} : ∀ {us : List Value} {ds : List D} {as : List Addr} {i : Nat} {u : Value}, ReadsAll h us ds as → us[i]? = some u → ∃ d bs, ds[i]? = some d ∧ Reads h u d bs
  | _, _, _, _, _, .nil, e => by simp at e
  | _, _, _, 0, _, .cons r _, e => by simp at e; subst e; exact ⟨_, _, rfl, r⟩
  | _, _, _, i + 1, _, .cons _ t, e => by
    obtain ⟨d, bs, a, b⟩ := ReadsAll.get_ (i := i) t (by simpa using e)
    exact ⟨d, bs, by simpa using a, b⟩
def gMinD : GC := fun ds k => match ds with
  | [.list (e :: es)] => PySem.W.AlikeAll (e :: es) ∧ PyData.depthAll (e :: es) ≤ 50 ∧ k (.dat (PySem.W.minD e es))
  | _ => False
section
variable {X : Cx}
theorem cd_minD (hc : X.calm = true) (hu : X.A.units + 64 < cLine) : CallD X (.builtin "min") gMinD := by
  refine ⟨⟨fun vs H Q => ∃ (a : Addr) (ws : List V) (e : D) (es : List D), vs = [V.ref a] ∧ SqL X.K H a ws ∧ Reps X.K H (e :: es) ws ∧ PySem.W.AlikeAll (e :: es) ∧ PyData.depthAll (e :: es) ≤ 50 ∧ ∀ v, Rep X.K H (PySem.W.minD e es) v → Q v H, ?_, fun H ds vs Q nd q => ?_⟩, fun ds k k' h q => ?_⟩
  · intro pins s σ H vs us Q I r h
    obtain ⟨a, ws, e, es, rfl, hs, rp, al, dp, q⟩ := h
    obtain ⟨its, rv, hl, hz⟩ := I.list hs
    rw [Vals.ref1 r]
    obtain ⟨as, ra⟩ := reps_reads I rp rv
    refine PySem.W.min_list_data (I.ok.hd hc) hl.isList (by simpa using ra) al (by omega) fun i v h' tk bs hi rm kp => ?_
    have hi : its[i]? = some v := by simpa using hi
    obtain ⟨d, cs, ed, rd⟩ := ReadsAll.get_ ra hi
    obtain ⟨w, ew, rw'⟩ := rp.get ed
    obtain ⟨u, eu, ru⟩ := rv.get ew
    rw [hi] at eu
    cases eu
    have e1 := ((PyProof.Rows.Reads.keeps kp rd).unique _ _ rm).1
    exact ⟨w, H, I.kept (t' := tk) kp, ru, q w (by rw [← e1]; exact rw')⟩
  · unfold gMinD at q
    split at q
    · obtain ⟨al, dp, q⟩ := q
      obtain ⟨v, rfl, n⟩ := pr1 nd
      obtain ⟨a, ws, rfl, h1, h2⟩ := n.list
      exact ⟨a, ws, _, _, rfl, h1, h2, al, dp, fun v hv => q v H (same_refl H) hv⟩
    · exact q.elim
  · unfold gMinD at q ⊢
    split at q
    · exact ⟨q.1, q.2.1, h _ q.2.2⟩
    · exact q
end
end DL
/-! M0: yards as data; what is asked of them, in plain words. -/
namespace K
open PySem DL
structure Deed where
  name : Str
  needs : List Int
  sets : List Int
  strikes : List Int
  cost : Int
structure Yard where
  marks : List Str
  deeds : List Deed
  start : List Int
  wish : List Int
def dD (d : Deed) : D := .tuple [.str d.name, tI d.needs, tI d.sets, tI d.strikes, .int d.cost]
def yD (y : Yard) : D := .tuple [.tuple (y.marks.map .str), .tuple (y.deeds.map dD), tI y.start, tI y.wish]
theorem noD_dD (d : Deed) : noD (dD d) = true := by simp [dD, noD, noDs, noDs_map]
theorem noDs_dD (ds : List Deed) : noDs (ds.map dD) = true := by rw [noDs_map]; simp [noD_dD]
theorem noD_yD (y : Yard) : noD (yD y) = true := by simp [yD, noD, noDs, noDs_map, noD_dD]
abbrev small26 : Str := "abcdefghijklmnopqrstuvwxyz"
def isName (z : Str) : Bool := decide ((1 : Int) ≤ (z.length : Int)) && (decide ((z.length : Int) ≤ 6) && z.cps.toList.all fun c => decide (c ∈ small26.cps.toList))
def areMarks (xs : List Int) (n : Int) : Bool := decide (xs.Pairwise (· < ·)) && xs.all fun m => decide (0 ≤ m) && decide (m < n)
def isDeed (d : Deed) (before : List Deed) (n : Int) : Bool :=
  isName d.name && !(before.map Deed.name).contains d.name && (decide (0 ≤ d.cost) && decide (d.cost ≤ 99)) && areMarks d.needs n && areMarks d.sets n && areMarks d.strikes n && d.sets.all fun m => !decide (m ∈ d.strikes)
/-- rising lists of the same members are one -/
theorem rise_eq : ∀ {xs ys : List Int}, xs.Pairwise (· < ·) → ys.Pairwise (· < ·) → (∀ k, k ∈ xs ↔ k ∈ ys) → xs = ys
  | [], [], _, _, _ => rfl
  | [], y :: ys, _, _, h => absurd ((h y).mpr List.mem_cons_self) (by simp)
  | x :: xs, [], _, _, h => absurd ((h x).mp List.mem_cons_self) (by simp)
  | x :: xs, y :: ys, hx, hy, h => by
    rw [List.pairwise_cons] at hx hy
    have e : x = y := by
      have h1 : x ∈ y :: ys := (h x).mp List.mem_cons_self
      have h2 : y ∈ x :: xs := (h y).mpr List.mem_cons_self
      rcases List.mem_cons.mp h1 with z | z
      · exact z
      · rcases List.mem_cons.mp h2 with z2 | z2
        · exact z2.symm
        · have a := hy.1 x z
          have b := hx.1 y z2
          omega
    subst e
    congr 1
    refine rise_eq hx.2 hy.2 fun k => ?_
    constructor
    · intro hk
      rcases List.mem_cons.mp ((h k).mp (List.mem_cons_of_mem _ hk)) with z | z
      · have := hx.1 k hk
        omega
      · exact z
    · intro hk
      rcases List.mem_cons.mp ((h k).mpr (List.mem_cons_of_mem _ hk)) with z | z
      · have := hy.1 k hk
        omega
      · exact z
theorem rise_dec {xs ns : List Int} (h1 : ns.Pairwise (· < ·)) (h2 : ∀ k, k ∈ ns ↔ k ∈ xs) : decide (xs = ns) = decide (xs.Pairwise (· < ·)) := by
  rw [Bool.eq_iff_iff, decide_eq_true_iff, decide_eq_true_iff]
  constructor
  · intro e; rw [e]; exact h1
  · intro h; exact rise_eq h h1 fun k => (h2 k).symm
theorem rise_len : ∀ {xs : List Int} {a b : Int}, xs.Pairwise (· < ·) → (∀ x ∈ xs, a ≤ x ∧ x < b) → a ≤ b → xs.length ≤ (b - a).toNat
  | [], _, _, _, _, _ => Nat.zero_le _
  | x :: xs, a, b, h, h2, hab => by
    rw [List.pairwise_cons] at h
    have hx := h2 x List.mem_cons_self
    have ih := rise_len (xs := xs) (a := x + 1) (b := b) h.2 (fun y hy => ⟨by have := h.1 y hy; omega, (h2 y (List.mem_cons_of_mem _ hy)).2⟩) (by omega)
    rw [List.length_cons]
    omega
theorem areMarks_iff {xs : List Int} {n : Int} : areMarks xs n = true ↔ xs.Pairwise (· < ·) ∧ ∀ x ∈ xs, 0 ≤ x ∧ x < n := by
  unfold areMarks
  rw [Bool.and_eq_true, decide_eq_true_iff, List.all_eq_true]
  simp only [Bool.and_eq_true, decide_eq_true_iff]
theorem areMarks_len {xs : List Int} {n : Nat} (h : areMarks xs n = true) : xs.length ≤ n := by
  obtain ⟨h1, h2⟩ := areMarks_iff.mp h
  have := rise_len h1 h2 (by omega)
  omega
theorem isName_len {z : Str} (h : isName z = true) : z.length ≤ 6 := by
  unfold isName at h
  simp only [Bool.and_eq_true, decide_eq_true_iff] at h
  omega
structure GoodD (n : Nat) (before : List Deed) (d : Deed) : Prop where
  nm : isName d.name = true
  fresh : d.name ∉ before.map Deed.name
  c0 : 0 ≤ d.cost
  c1 : d.cost ≤ 99
  nd : areMarks d.needs n = true
  st : areMarks d.sets n = true
  sk : areMarks d.strikes n = true
  apart : ∀ m ∈ d.sets, m ∉ d.strikes
theorem GoodD.is {n : Nat} {before : List Deed} {d : Deed} (h : GoodD n before d) : isDeed d before n = true := by
  unfold isDeed
  rw [h.nm, h.nd, h.st, h.sk, decide_eq_true h.c0, decide_eq_true h.c1, List.contains_eq_mem, decide_eq_false h.fresh]
  simp only [Bool.not_false, Bool.and_self, Bool.true_and, List.all_eq_true]
  intro m hm
  simp [h.apart m hm]
structure GoodY (y : Yard) : Prop where
  m1 : 1 ≤ y.marks.length
  m2 : y.marks.length ≤ 10
  mn : ∀ i z, y.marks[i]? = some z → isName z = true ∧ z ∉ y.marks.take i
  d2 : y.deeds.length ≤ 16
  dd : ∀ i d, y.deeds[i]? = some d → GoodD y.marks.length (y.deeds.take i) d
  b : areMarks y.start y.marks.length = true
  w : areMarks y.wish y.marks.length = true
end K
namespace K
open PySem PySem.Spec PyProof.Rows L2 DL
local macro_rules | `(tactic| walk_at "nod") => `(tactic| first | rfl | exact noD_tI _ | exact noD_ints _ | exact noD_tIs _ | (simp [noD, noDs, noDs_map, noDs_app, noDs_all]; done))
local macro_rules | `(tactic| walk_at "w") => `(tactic| conv => whnf)
local macro_rules | `(tactic| walk_at "side") => `(tactic| first | rfl | exact True.intro | assumption | exact shal_nil (by walk_at "nod") | exact shal_int (by walk_at "nod") | exact shal_bool (by walk_at "nod") | exact shal_str (by walk_at "nod") | exact shal_nilT (by walk_at "nod") | exact flat_ints _ | exact flat_strs _ | omega | exact le_line (Nat.le_of_ble_eq_true rfl))
local macro_rules | `(tactic| walk_at "lc") => `(tactic| first | exact ⟨rfl, fun _ => ⟨rfl, rfl⟩, fun _ => rfl⟩ | exact ⟨rfl, fun _ => ⟨rfl, rfl⟩, fun z => (by cases z)⟩ | exact ⟨fun _ => ⟨rfl, rfl⟩, fun _ => rfl⟩ | exact ⟨fun _ => ⟨rfl, rfl⟩, fun z => (by cases z)⟩)
local macro_rules | `(tactic| walk_at "lch") => `(tactic| first | exact ⟨by simp [*], fun _ => ⟨rfl, rfl⟩, fun _ => rfl⟩ | exact ⟨by simp [*], fun z => (by cases z), fun _ => rfl⟩ | exact ⟨by simp [*], fun _ => ⟨rfl, rfl⟩, fun z => (by cases z)⟩)
local macro_rules | `(tactic| walk_at "go") => `(tactic| (walk_at "w"; repeat ((first | (refine And.intro ?left ?_; (case left => walk_at "side")) | (refine Br.t ?_) | (refine Br.f ?_)); walk_at "w")))
section
variable {P : Program} {w : World} {K : PySem.W.Frag} {mg : Str → Option Value} {base : Heap}
def topS (i : Nat) : Stmt := PySem.Challenge.pw_wishbound_k04_cheapest_by_going_on.main.body.getD i (.Pass ⟨0, 0, 0, 0⟩)
structure Tx (mg : Str → Option Value) : Prop where
  c_MARKS : ∃ t, mg "MARKS" = some (.int 10 t)
  c_DEEDS : ∃ t, mg "DEEDS" = some (.int 16 t)
  c_COST : ∃ t, mg "COST" = some (.int 99 t)
  c_LETTERS : ∃ t, mg "LETTERS" = some (.int 6 t)
  c_SMALL : ∃ t, mg "SMALL" = some (.str "abcdefghijklmnopqrstuvwxyz" t)
  c_STATES : ∃ t, mg "STATES" = some (.int 1024 t)

end
end K
namespace K
open PySem PySem.Spec PyProof.Rows L2 DL
local macro_rules | `(tactic| walk_at "nod") => `(tactic| first | rfl | exact noD_tI _ | exact noD_ints _ | exact noD_tIs _ | (simp [noD, noDs, noDs_map, noDs_app, noDs_all]; done))
local macro_rules | `(tactic| walk_at "w") => `(tactic| conv => whnf)
local macro_rules | `(tactic| walk_at "side") => `(tactic| first | rfl | exact True.intro | assumption | exact shal_nil (by walk_at "nod") | exact shal_int (by walk_at "nod") | exact shal_bool (by walk_at "nod") | exact shal_str (by walk_at "nod") | exact shal_nilT (by walk_at "nod") | exact flat_ints _ | exact flat_strs _ | omega | exact le_line (Nat.le_of_ble_eq_true rfl))
local macro_rules | `(tactic| walk_at "lc") => `(tactic| first | exact ⟨rfl, fun _ => ⟨rfl, rfl⟩, fun _ => rfl⟩ | exact ⟨rfl, fun _ => ⟨rfl, rfl⟩, fun z => (by cases z)⟩ | exact ⟨fun _ => ⟨rfl, rfl⟩, fun _ => rfl⟩ | exact ⟨fun _ => ⟨rfl, rfl⟩, fun z => (by cases z)⟩)
local macro_rules | `(tactic| walk_at "lch") => `(tactic| first | exact ⟨by simp [*], fun _ => ⟨rfl, rfl⟩, fun _ => rfl⟩ | exact ⟨by simp [*], fun z => (by cases z), fun _ => rfl⟩ | exact ⟨by simp [*], fun _ => ⟨rfl, rfl⟩, fun z => (by cases z)⟩)
local macro_rules | `(tactic| walk_at "go") => `(tactic| (walk_at "w"; repeat ((first | (refine And.intro ?left ?_; (case left => walk_at "side")) | (refine Br.t ?_) | (refine Br.f ?_)); walk_at "w")))
section
variable {P : Program} {w : World} {K : PySem.W.Frag} {mg : Str → Option Value} {base : Heap}
abbrev s_is_name : Stmt := topS 10
abbrev N_is_name : List Str := ["name", "sign"]
theorem sc_is_name : FnScope N_is_name ["name"] (defScope s_is_name) := ⟨rfl, rfl, rfl, by decide +kernel, rfl, by decide +kernel, by decide +kernel⟩
def sp_is_name : SpD := fun Γ Q _ => ∃ z : Str, Γ = [.fz (.str z)] ∧ z.length ≤ sizeLine ∧ Q (.fz (.bool (isName z))) Γ
theorem ms_is_name : MonoSp sp_is_name := fun Γ Q Q' E E' h _ ⟨z, e, l, q⟩ => ⟨z, e, l, h _ _ q⟩
theorem ok_is_name {f : Addr} {fd : FuncData} (F : Fun K "is_name" "is_name" s_is_name f fd) (B : Bl mg) (T : Tx mg) : FnOk P w K mg base CX0 1 f fd ["name"] (liftSp K 1 sp_is_name) := by
  refine fnd F sc_is_name 1 rfl ms_is_name (fun X cdv A outer s H E hX hr => ?_)
  subst hX
  have hu := hu64 hr
  refine ⟨_, (pds_one (pd_ret (pd_and (pd_chain od_le od_le pd_int (pd_callB cd_len rfl B.len bt_len (pad_cons (pdv 0) pad_nil)) (pd_gint T.c_LETTERS)) (pd_one (pd_cmp (od_eq hu) (pd_lc [("sign", 1)] rfl sc_is_name.nd (pid_str (pdv 0)) (blkOk_by (N := N_is_name) (sc := defScope s_is_name) (by decide +kernel)) (fun _ _ _ _ _ => pgc_name 1 sc_is_name.nd) (fun _ _ _ _ _ => pbs_one (pb_cmp od_notIn (pdv 1) (pd_gstr T.c_SMALL))) (fun _ _ _ _ _ => (pdv 1))) (pd_lst pad_nil)))))), fun Γ Q E' hl hsp => ?_⟩
  obtain ⟨z, rfl, hz, q⟩ := hsp
  walk_at "go"
  unfold isName at q
  refine ⟨fun h1 => ?_, fun h1 => ?_⟩
  · rw [h1, Bool.true_and] at q
    walk_at "go"
    refine ⟨fun h2 => ?_, fun h2 => ?_⟩
    · rw [h2, Bool.true_and] at q
      walk_at "go"
      intro mc
      refine LcR.signs mc (fun c => !decide (c ∈ small26.cps.toList)) (fun c => .str ⟨#[c]⟩) trivial (fun c hc => ?_) (fun a => ?_)
      · walk_at "w"
        refine ⟨c, rfl, ?_⟩
        walk_at "w"
        exact ⟨rfl, fun _ => ⟨rfl, rfl⟩, fun _ => rfl⟩
      · walk_at "w"
        intro b
        walk_at "go"
        rw [eqv_nil, isEmpty_map, isEmpty_filter]
        simp only [Bool.not_not]
        exact q
    · rw [h2, Bool.false_and] at q
      walk_at "go"
      exact q
  · rw [h1, Bool.false_and] at q
    walk_at "go"
    exact q

end
end K
namespace K
open PySem PySem.Spec PyProof.Rows L2 DL
local macro_rules | `(tactic| walk_at "nod") => `(tactic| first | rfl | exact noD_tI _ | exact noD_ints _ | exact noD_tIs _ | (simp [noD, noDs, noDs_map, noDs_app, noDs_all]; done))
local macro_rules | `(tactic| walk_at "w") => `(tactic| conv => whnf)
local macro_rules | `(tactic| walk_at "side") => `(tactic| first | rfl | exact True.intro | assumption | exact shal_nil (by walk_at "nod") | exact shal_int (by walk_at "nod") | exact shal_bool (by walk_at "nod") | exact shal_str (by walk_at "nod") | exact shal_nilT (by walk_at "nod") | exact flat_ints _ | exact flat_strs _ | omega | exact le_line (Nat.le_of_ble_eq_true rfl))
local macro_rules | `(tactic| walk_at "lc") => `(tactic| first | exact ⟨rfl, fun _ => ⟨rfl, rfl⟩, fun _ => rfl⟩ | exact ⟨rfl, fun _ => ⟨rfl, rfl⟩, fun z => (by cases z)⟩ | exact ⟨fun _ => ⟨rfl, rfl⟩, fun _ => rfl⟩ | exact ⟨fun _ => ⟨rfl, rfl⟩, fun z => (by cases z)⟩)
local macro_rules | `(tactic| walk_at "lch") => `(tactic| first | exact ⟨by simp [*], fun _ => ⟨rfl, rfl⟩, fun _ => rfl⟩ | exact ⟨by simp [*], fun z => (by cases z), fun _ => rfl⟩ | exact ⟨by simp [*], fun _ => ⟨rfl, rfl⟩, fun z => (by cases z)⟩)
local macro_rules | `(tactic| walk_at "go") => `(tactic| (walk_at "w"; repeat ((first | (refine And.intro ?left ?_; (case left => walk_at "side")) | (refine Br.t ?_) | (refine Br.f ?_)); walk_at "w")))
section
variable {P : Program} {w : World} {K : PySem.W.Frag} {mg : Str → Option Value} {base : Heap}
abbrev s_are_marks : Stmt := topS 11
abbrev N_are_marks : List Str := ["some", "many", "mark"]
theorem sc_are_marks : FnScope N_are_marks ["some", "many"] (defScope s_are_marks) := ⟨rfl, rfl, rfl, by decide +kernel, rfl, by decide +kernel, by decide +kernel⟩
def sp_are_marks : SpD := fun Γ Q _ => ∃ (xs : List Int) (n : Int), Γ = [.fz (tI xs), .fz (.int n)] ∧ xs.length < 64 ∧ Q (.fz (.bool (areMarks xs n))) Γ
theorem ms_are_marks : MonoSp sp_are_marks := fun Γ Q Q' E E' h _ ⟨z, n, e, l, q⟩ => ⟨z, n, e, l, h _ _ q⟩
theorem ok_are_marks {f : Addr} {fd : FuncData} (F : Fun K "are_marks" "are_marks" s_are_marks f fd) (B : Bl mg) : FnOk P w K mg base CX0 1 f fd ["some", "many"] (liftSp K 2 sp_are_marks) := by
  refine fnd F sc_are_marks 2 rfl ms_are_marks (fun X cdv A outer s H E hX hr => ?_)
  subst hX
  have hu := hu64 hr
  refine ⟨_, (pds_one (pd_ret (pd_and (pd_cmp (od_eq hu) (pd_callTy cd_list rfl B.list bt_list (pad_cons (pdv 0) pad_nil)) (pd_sortSt rfl rfl B.sorted (pst_sc [("mark", 2)] rfl sc_are_marks.nd (pid_seq (pdv 0)) (blkOk_by (N := N_are_marks) (sc := defScope s_are_marks) (by decide +kernel)) (fun _ _ _ _ _ => pgc_name 2 sc_are_marks.nd) (fun _ _ _ _ _ => pbs_nil) (fun _ _ _ _ _ => (pdv 2))))) (pd_one (pd_cmp (od_eq hu) (pd_lc [("mark", 2)] rfl sc_are_marks.nd (pid_seq (pdv 0)) (blkOk_by (N := N_are_marks) (sc := defScope s_are_marks) (by decide +kernel)) (fun _ _ _ _ _ => pgc_name 2 sc_are_marks.nd) (fun _ _ _ _ _ => pbs_one (pb_not (pb_chain od_le od_lt pd_int (pdv 2) (pdv 1)))) (fun _ _ _ _ _ => (pdv 2))) (pd_lst pad_nil)))))), fun Γ Q E' hl hsp => ?_⟩
  obtain ⟨xs, n, rfl, hz, q⟩ := hsp
  walk_at "w"
  intro p1
  walk_at "w"
  intro mc
  refine ScR.ints mc (fun _ => true) id trivial (by omega) (fun x hx => ?_) (fun ys h1 h2 => ?_)
  · walk_at "w"
    exact ⟨rfl, fun _ => ⟨rfl, rfl⟩, fun h => by cases h⟩
  · refine ⟨by omega, fun ns n1 n2 p2 => ?_⟩
    walk_at "w"
    refine ⟨⟨.inl (depth_lI _), by walk_at "nod", by walk_at "nod"⟩, ?_⟩
    rw [eqv_lI, rise_dec (xs := xs) n1 (fun k => by rw [n2, h1]; simp)]
    unfold areMarks at q
    walk_at "go"
    refine ⟨fun h1 => ?_, fun h1 => ?_⟩
    · rw [h1, Bool.true_and] at q
      walk_at "go"
      intro mc2
      refine LcR.ints mc2 (fun m => !(decide (0 ≤ m) && decide (m < n))) .int trivial (fun x hx => ?_) (fun a => ?_)
      · walk_at "go"
        refine ⟨fun h2 => ?_, fun h2 => ?_⟩
        · walk_at "go"
          rw [h2, Bool.true_and]
          exact ⟨rfl, fun _ => ⟨rfl, rfl⟩, fun _ => rfl⟩
        · walk_at "w"
          rw [h2, Bool.false_and]
          exact ⟨rfl, fun _ => ⟨rfl, rfl⟩, fun _ => rfl⟩
      · walk_at "w"
        intro b
        walk_at "go"
        rw [eqv_nil, isEmpty_map, isEmpty_filter]
        simp only [Bool.not_not]
        exact q
    · rw [h1, Bool.false_and] at q
      walk_at "go"
      exact q

end
end K
namespace K
open PySem PySem.Spec PyProof.Rows L2 DL
local macro_rules | `(tactic| walk_at "nod") => `(tactic| first | rfl | exact noD_tI _ | exact noD_ints _ | exact noD_tIs _ | (simp [noD, noDs, noDs_map, noDs_app, noDs_all]; done))
local macro_rules | `(tactic| walk_at "w") => `(tactic| conv => whnf)
local macro_rules | `(tactic| walk_at "side") => `(tactic| first | rfl | exact True.intro | assumption | exact shal_nil (by walk_at "nod") | exact shal_int (by walk_at "nod") | exact shal_bool (by walk_at "nod") | exact shal_str (by walk_at "nod") | exact shal_nilT (by walk_at "nod") | exact flat_ints _ | exact flat_strs _ | omega | exact le_line (Nat.le_of_ble_eq_true rfl))
local macro_rules | `(tactic| walk_at "lc") => `(tactic| first | exact ⟨rfl, fun _ => ⟨rfl, rfl⟩, fun _ => rfl⟩ | exact ⟨rfl, fun _ => ⟨rfl, rfl⟩, fun z => (by cases z)⟩ | exact ⟨fun _ => ⟨rfl, rfl⟩, fun _ => rfl⟩ | exact ⟨fun _ => ⟨rfl, rfl⟩, fun z => (by cases z)⟩)
local macro_rules | `(tactic| walk_at "lch") => `(tactic| first | exact ⟨by simp [*], fun _ => ⟨rfl, rfl⟩, fun _ => rfl⟩ | exact ⟨by simp [*], fun z => (by cases z), fun _ => rfl⟩ | exact ⟨by simp [*], fun _ => ⟨rfl, rfl⟩, fun z => (by cases z)⟩)
local macro_rules | `(tactic| walk_at "go") => `(tactic| (walk_at "w"; repeat ((first | (refine And.intro ?left ?_; (case left => walk_at "side")) | (refine Br.t ?_) | (refine Br.f ?_)); walk_at "w")))
section
variable {P : Program} {w : World} {K : PySem.W.Frag} {mg : Str → Option Value} {base : Heap}
abbrev s_is_deed : Stmt := topS 12
abbrev N_is_deed : List Str := ["deed", "ahead", "many", "name", "needs", "sets", "strikes", "cost", "other", "mark"]
theorem sc_is_deed : FnScope N_is_deed ["deed", "ahead", "many"] (defScope s_is_deed) := ⟨rfl, rfl, rfl, by decide +kernel, rfl, by decide +kernel, by decide +kernel⟩
def sp_is_deed : SpD := fun Γ Q _ => ∃ (d : Deed) (before : List Deed) (n : Int), Γ = [.fz (dD d), .fz (.tuple (before.map dD)), .fz (.int n)] ∧ d.name.length ≤ sizeLine ∧ d.needs.length < 64 ∧ d.sets.length < 64 ∧ d.strikes.length < 64 ∧ Q (.fz (.bool (isDeed d before n))) Γ
theorem ms_is_deed : MonoSp sp_is_deed := fun Γ Q Q' E E' h _ ⟨d, a, n, e, l1, l2, l3, l4, q⟩ => ⟨d, a, n, e, l1, l2, l3, l4, h _ _ q⟩
theorem ok_is_deed {f : Addr} {fd : FuncData} (F : Fun K "is_deed" "is_deed" s_is_deed f fd) (B : Bl mg) (T : Tx mg) (D_is_name : DefOk P w K mg base 1 "is_name" ["name"] 1 sp_is_name) (D_are_marks : DefOk P w K mg base 1 "are_marks" ["some", "many"] 2 sp_are_marks) :
    FnOk P w K mg base CX0 2 f fd ["deed", "ahead", "many"] (liftSp K 3 sp_is_deed) := by
  refine fnd F sc_is_deed 3 rfl ms_is_deed (fun X cdv A outer s H E hX hr => ?_)
  subst hX
  have hu := hu64 hr
  refine ⟨_, (pds_cons (pd_asg (pdv 0) (pgd_tup rfl (pgsd_cons (pgd_name 3 sc_is_deed.nd) (pgsd_cons (pgd_name 4 sc_is_deed.nd) (pgsd_cons (pgd_name 5 sc_is_deed.nd) (pgsd_cons (pgd_name 6 sc_is_deed.nd) (pgsd_cons (pgd_name 7 sc_is_deed.nd) pgsd_nil)))))))
 (pds_cons (pd_if (PBW.pb (pbw_or (pb_not (pb_val (pd_def D_is_name hr (pad_cons (pdv 3) pad_nil)))) (pbw_or (pb_cmp od_in (pdv 3) (pd_lc [("other", 8)] rfl sc_is_deed.nd (pid_seq (pdv 1)) (blkOk_by (N := N_is_deed) (sc := defScope s_is_deed) (by decide +kernel)) (fun _ _ _ _ _ => pgc_name 8 sc_is_deed.nd) (fun _ _ _ _ _ => pbs_nil) (fun _ _ _ _ _ => (pd_ix (pdv 8) pd_int)))) (pbw_or1 (pb_not (pb_chain od_le od_le pd_int (pdv 7) (pd_gint T.c_COST))))))) (pds_one (pd_ret pd_bl)) pds_nil)
 (pds_cons (pd_if (PBW.pb (pbw_or (pb_not (pb_val (pd_def D_are_marks hr (pad_cons (pdv 4) (pad_cons (pdv 2) pad_nil))))) (pbw_or (pb_not (pb_val (pd_def D_are_marks hr (pad_cons (pdv 5) (pad_cons (pdv 2) pad_nil))))) (pbw_or1 (pb_not (pb_val (pd_def D_are_marks hr (pad_cons (pdv 6) (pad_cons (pdv 2) pad_nil))))))))) (pds_one (pd_ret pd_bl)) pds_nil)
 (pds_one (pd_ret (pd_cmp (od_eq hu) (pd_lc [("mark", 9)] rfl sc_is_deed.nd (pid_seq (pdv 5)) (blkOk_by (N := N_is_deed) (sc := defScope s_is_deed) (by decide +kernel)) (fun _ _ _ _ _ => pgc_name 9 sc_is_deed.nd) (fun _ _ _ _ _ => pbs_one (pb_cmp od_in (pdv 9) (pdv 6))) (fun _ _ _ _ _ => (pdv 9))) (pd_lst pad_nil))))))), fun Γ Q E' hl hsp => ?_⟩
  obtain ⟨d, before, n, rfl, l1, l2, l3, l4, q⟩ := hsp
  -- an answer «no»
  have no : isDeed d before n = false → Q (.fz (.bool false)) [.fz (dD d), .fz (.tuple (before.map dD)), .fz (.int n)] := fun e => by rw [e] at q; exact q
  unfold isDeed at q no
  walk_at "go"
  refine ⟨d.name, rfl, l1, ?_⟩
  walk_at "go"
  refine ⟨fun h1 => ?_, fun h1 => ?_⟩
  · walk_at "go"
    exact no (by rw [show isName d.name = false by simpa using h1]; simp)
  have h1 : isName d.name = true := by simpa using h1
  rw [h1] at q no
  walk_at "w"
  intro mc
  refine LcR.of (enc := dD) mc (fun _ => true) (fun x => .str x.name) trivial (fun x hx => ?_) (fun a => ?_)
  · walk_at "w"
    walk_at "lc"
  rw [filt_true, show before.map (fun x => PyData.str x.name) = (before.map Deed.name).map .str by rw [List.map_map]; rfl]
  walk_at "go"
  rw [isIn_strs]
  refine ⟨fun h2 => ?_, fun h2 => ?_⟩
  · walk_at "go"
    exact no (by rw [show ((before.map Deed.name).contains d.name) = true by rw [List.contains_eq_mem]; exact h2]; simp)
  have h2' : ((before.map Deed.name).contains d.name) = false := by
    rw [List.contains_eq_mem]
    exact h2
  rw [h2'] at q no
  walk_at "go"
  -- not 0 <= cost <= COST
  refine ⟨fun h3 => ?_, fun h3 => ?_⟩
  case refine_2 =>
    walk_at "go"
    exact no (by rw [h3]; simp)
  rw [h3] at q no
  walk_at "go"
  refine ⟨fun h4 => ?_, fun h4 => ?_⟩
  · walk_at "go"
    exact no (by rw [show decide (d.cost ≤ 99) = false by simpa using h4]; simp)
  rw [show decide (d.cost ≤ 99) = true by simpa using h4] at q no
  walk_at "go"
  refine ⟨_, _, rfl, l2, ?_⟩
  walk_at "go"
  refine ⟨fun h5 => ?_, fun h5 => ?_⟩
  · walk_at "go"
    exact no (by rw [show areMarks d.needs n = false by simpa using h5]; simp)
  rw [show areMarks d.needs n = true by simpa using h5] at q no
  walk_at "go"
  refine ⟨_, _, rfl, l3, ?_⟩
  walk_at "go"
  refine ⟨fun h6 => ?_, fun h6 => ?_⟩
  · walk_at "go"
    exact no (by rw [show areMarks d.sets n = false by simpa using h6]; simp)
  rw [show areMarks d.sets n = true by simpa using h6] at q no
  walk_at "go"
  refine ⟨_, _, rfl, l4, ?_⟩
  walk_at "go"
  refine ⟨fun h7 => ?_, fun h7 => ?_⟩
  · walk_at "go"
    exact no (by rw [show areMarks d.strikes n = false by simpa using h7]; simp)
  rw [show areMarks d.strikes n = true by simpa using h7] at q no
  walk_at "w"
  intro mc2
  refine LcR.ints mc2 (fun m => decide (m ∈ d.strikes)) .int trivial (fun x hx => ?_) (fun a => ?_)
  · walk_at "go"
    rw [isIn_ints]
    walk_at "lc"
  · walk_at "w"
    intro b
    walk_at "go"
    rw [eqv_nil, isEmpty_map, isEmpty_filter]
    exact q

end
end K
namespace K
open PySem PySem.Spec PyProof.Rows L2 DL
local macro_rules | `(tactic| walk_at "nod") => `(tactic| first | rfl | exact noD_tI _ | exact noD_ints _ | exact noD_tIs _ | (simp [noD, noDs, noDs_map, noDs_app, noDs_all]; done))
local macro_rules | `(tactic| walk_at "w") => `(tactic| conv => whnf)
local macro_rules | `(tactic| walk_at "side") => `(tactic| first | rfl | exact True.intro | assumption | exact shal_nil (by walk_at "nod") | exact shal_int (by walk_at "nod") | exact shal_bool (by walk_at "nod") | exact shal_str (by walk_at "nod") | exact shal_nilT (by walk_at "nod") | exact flat_ints _ | exact flat_strs _ | omega | exact le_line (Nat.le_of_ble_eq_true rfl))
local macro_rules | `(tactic| walk_at "lc") => `(tactic| first | exact ⟨rfl, fun _ => ⟨rfl, rfl⟩, fun _ => rfl⟩ | exact ⟨rfl, fun _ => ⟨rfl, rfl⟩, fun z => (by cases z)⟩ | exact ⟨fun _ => ⟨rfl, rfl⟩, fun _ => rfl⟩ | exact ⟨fun _ => ⟨rfl, rfl⟩, fun z => (by cases z)⟩)
local macro_rules | `(tactic| walk_at "lch") => `(tactic| first | exact ⟨by simp [*], fun _ => ⟨rfl, rfl⟩, fun _ => rfl⟩ | exact ⟨by simp [*], fun z => (by cases z), fun _ => rfl⟩ | exact ⟨by simp [*], fun _ => ⟨rfl, rfl⟩, fun z => (by cases z)⟩)
local macro_rules | `(tactic| walk_at "go") => `(tactic| (walk_at "w"; repeat ((first | (refine And.intro ?left ?_; (case left => walk_at "side")) | (refine Br.t ?_) | (refine Br.f ?_)); walk_at "w")))
section
variable {P : Program} {w : World} {K : PySem.W.Frag} {mg : Str → Option Value} {base : Heap}
abbrev s_need_yard : Stmt := topS 13
abbrev N_need_yard : List Str := ["yard", "marks", "deeds", "begin", "wish", "at", "name", "deed", "word", "some"]
theorem sc_need_yard : FnScope N_need_yard ["yard"] (defScope s_need_yard) := ⟨rfl, rfl, rfl, by decide +kernel, rfl, by decide +kernel, by decide +kernel⟩
/-- of good yards alone: nothing is refused -/
def sp_need : SpD := fun Γ Q _ => ∃ y : Yard, Γ = [.fz (yD y)] ∧ GoodY y ∧ Q (.fz .none) Γ
theorem ms_need : MonoSp sp_need := fun Γ Q Q' E E' h _ ⟨y, e, g, q⟩ => ⟨y, e, g, h _ _ q⟩
theorem ok_need_yard {f : Addr} {fd : FuncData} (F : Fun K "need_yard" "need_yard" s_need_yard f fd) (B : Bl mg) (T : Tx mg) (D_is_name : DefOk P w K mg base 1 "is_name" ["name"] 1 sp_is_name) (D_are_marks : DefOk P w K mg base 1 "are_marks" ["some", "many"] 2 sp_are_marks)
    (D_is_deed : DefOk P w K mg base 2 "is_deed" ["deed", "ahead", "many"] 3 sp_is_deed) : FnOk P w K mg base CX0 3 f fd ["yard"] (liftSp K 1 sp_need) := by
  refine fnd F sc_need_yard 1 rfl ms_need (fun X cdv A outer s H E hX hr => ?_)
  subst hX
  have hu := hu64 hr
  refine ⟨_, (pds_cons (pd_asg (pdv 0) (pgd_tup rfl (pgsd_cons (pgd_name 1 sc_need_yard.nd) (pgsd_cons (pgd_name 2 sc_need_yard.nd) (pgsd_cons (pgd_name 3 sc_need_yard.nd) (pgsd_cons (pgd_name 4 sc_need_yard.nd) pgsd_nil))))))
 (pds_cons (pd_if (pb_not (pb_chain od_le od_le pd_int (pd_callB cd_len rfl B.len bt_len (pad_cons (pdv 1) pad_nil)) (pd_gint T.c_MARKS))) (pds_one pd_never) pds_nil)
 (pds_cons (pd_for PassesOwn.never rfl (pid_enumT rfl B.enumerate (pdv 1)) (pgd_tup rfl (pgsd_cons (pgd_name 5 sc_need_yard.nd) (pgsd_cons (pgd_name 6 sc_need_yard.nd) pgsd_nil))) (pds_one (pd_if (PBW.pb (pbw_or (pb_not (pb_val (pd_def D_is_name hr (pad_cons (pdv 6) pad_nil)))) (pbw_or1 (pb_cmp od_in (pdv 6) (pd_slice (pdv 1) pod_none (pod_some (pdv 5))))))) (pds_one pd_never) pds_nil)))
 (pds_cons (pd_if (pb_cmp od_gt (pd_callB cd_len rfl B.len bt_len (pad_cons (pdv 2) pad_nil)) (pd_gint T.c_DEEDS)) (pds_one pd_never) pds_nil)
 (pds_cons (pd_for PassesOwn.never rfl (pid_enumT rfl B.enumerate (pdv 2)) (pgd_tup rfl (pgsd_cons (pgd_name 5 sc_need_yard.nd) (pgsd_cons (pgd_name 7 sc_need_yard.nd) pgsd_nil))) (pds_one (pd_if (pb_not (pb_val (pd_def D_is_deed hr (pad_cons (pdv 7) (pad_cons (pd_fz (pd_slice (pdv 2) pod_none (pod_some (pdv 5)))) (pad_cons (pd_callB cd_len rfl B.len bt_len (pad_cons (pdv 1) pad_nil)) pad_nil)))))) (pds_one pd_never) pds_nil)))
 (pds_one (pd_for PassesOwn.never rfl (pid_seq (pd_fz (pd_lst (pad_cons (pd_tup (pad_cons (pd_str) (pad_cons (pdv 3) pad_nil))) (pad_cons (pd_tup (pad_cons (pd_str) (pad_cons (pdv 4) pad_nil))) pad_nil))))) (pgd_tup rfl (pgsd_cons (pgd_name 8 sc_need_yard.nd) (pgsd_cons (pgd_name 9 sc_need_yard.nd) pgsd_nil))) (pds_one (pd_if (pb_not (pb_val (pd_def D_are_marks hr (pad_cons (pdv 9) (pad_cons (pd_callB cd_len rfl B.len bt_len (pad_cons (pdv 1) pad_nil)) pad_nil))))) (pds_one pd_never) pds_nil))))))))), fun Γ Q E' hl hsp => ?_⟩
  obtain ⟨y, rfl, g, q⟩ := hsp
  have gm1 := g.m1
  have gm2 := g.m2
  have gd2 := g.d2
  walk_at "go"
  rw [List.length_map]
  rw [show decide ((1 : Int) ≤ (y.marks.length : Int)) = true by rw [decide_eq_true_iff]; omega]
  walk_at "go"
  rw [show decide ((y.marks.length : Int) ≤ 10) = true by rw [decide_eq_true_iff]; omega]
  walk_at "go"
  intro mf
  refine ForR.ix (fun _ Γ => ∃ a b, Γ = [.fz (yD y), .fz (.tuple (y.marks.map .str)), .fz (.tuple (y.deeds.map dD)), .fz (tI y.start), .fz (tI y.wish), a, b, .no, .no, .no]) ⟨_, _, rfl⟩ (fun _ _ _ _ => trivial) (fun i d Γ ed hi => ?_) (fun Γ hi => ?_)
  · obtain ⟨a, b, rfl⟩ := hi
    obtain ⟨d', e1, rfl⟩ := enum0 ed
    obtain ⟨z, e2, rfl⟩ := map_at e1
    obtain ⟨n1, n2⟩ := g.mn i z e2
    walk_at "go"
    refine ⟨z, rfl, Nat.le_trans (isName_len n1) (le_line (by decide)), ?_⟩
    walk_at "go"
    rw [n1]
    walk_at "w"
    refine Br.f ?_
    walk_at "w"
    refine ⟨rfl, ?_, ?_⟩
    · rw [cut_to, ← List.map_take]; exact flat_strs _
    rw [cut_to, ← List.map_take, isIn_strs, decide_eq_false n2]
    walk_at "go"
    exact ⟨_, _, rfl⟩
  obtain ⟨a, b, rfl⟩ := hi
  walk_at "go"
  rw [List.length_map, show decide ((16 : Int) < (y.deeds.length : Int)) = false by rw [decide_eq_false_iff_not]; omega]
  walk_at "go"
  intro mf2
  refine ForR.ix (fun _ Γ => ∃ a b c, Γ = [.fz (yD y), .fz (.tuple (y.marks.map .str)), .fz (.tuple (y.deeds.map dD)), .fz (tI y.start), .fz (tI y.wish), a, b, c, .no, .no]) ⟨_, _, _, rfl⟩ (fun _ _ _ _ => trivial) (fun i d Γ ed hi => ?_) (fun Γ hi => ?_)
  · obtain ⟨a, b, c, rfl⟩ := hi
    obtain ⟨d', e1, rfl⟩ := enum0 ed
    obtain ⟨z, e2, rfl⟩ := map_at e1
    have gz := g.dd i z e2
    have k1 := areMarks_len gz.nd
    have k2 := areMarks_len gz.st
    have k3 := areMarks_len gz.sk
    walk_at "go"
    rw [cut_to, ← List.map_take, List.length_map]
    refine ⟨z, _, _, rfl, Nat.le_trans (isName_len gz.nm) (le_line (by decide)), by omega, by omega, by omega, ?_⟩
    rw [gz.is]
    walk_at "go"
    exact ⟨_, _, _, rfl⟩
  obtain ⟨a, b, c, rfl⟩ := hi
  walk_at "w"
  intro p
  walk_at "w"
  intro mf3
  refine ForR.ix (fun _ Γ => ∃ u v, Γ = [.fz (yD y), .fz (.tuple (y.marks.map .str)), .fz (.tuple (y.deeds.map dD)), .fz (tI y.start), .fz (tI y.wish), a, b, c, u, v]) ⟨_, _, rfl⟩ (fun _ _ _ _ => trivial) (fun i d Γ ed hi => ?_) (fun Γ hi => ?_)
  · obtain ⟨u, v, rfl⟩ := hi
    have k1 := areMarks_len g.b
    have k2 := areMarks_len g.w
    match i, ed with
    | 0, ed =>
      cases (Option.some.inj ed)
      walk_at "go"
      rw [List.length_map]
      refine ⟨_, _, rfl, by omega, ?_⟩
      rw [g.b]
      walk_at "go"
      exact ⟨_, _, rfl⟩
    | 1, ed =>
      cases (Option.some.inj ed)
      walk_at "go"
      rw [List.length_map]
      refine ⟨_, _, rfl, by omega, ?_⟩
      rw [g.w]
      walk_at "go"
      exact ⟨_, _, rfl⟩
    | i + 2, ed => cases ed
  obtain ⟨u, v, rfl⟩ := hi
  exact q

end
end K
/-! M1: marks that come about if nothing is struck. -/
namespace K
open PySem DL
inductive Comes (b : List Int) (ds : List Deed) (lo : List Int) : Int → Prop
  | start {m : Int} : m ∈ b → Comes b ds lo m
  | deed {k : Nat} {d : Deed} {m : Int} : ds[k]? = some d → ((k : Nat) : Int) ∉ lo → (∀ n, n ∈ d.needs → Comes b ds lo n) → m ∈ d.sets → Comes b ds lo m
theorem rise_filter {xs : List Int} (p : Int → Bool) (h : xs.Pairwise (· < ·)) : (xs.filter p).Pairwise (· < ·) := List.Pairwise.filter p h
theorem rise_lt {xs ys : List Int} (hx : xs.Pairwise (· < ·)) (hy : ys.Pairwise (· < ·)) (sub : ∀ x ∈ xs, x ∈ ys) {y : Int} (h1 : y ∈ ys) (h2 : y ∉ xs) : xs.length < ys.length := by
  have e : xs = ys.filter fun z => decide (z ∈ xs) := rise_eq hx (rise_filter _ hy) fun k => by
    rw [List.mem_filter, decide_eq_true_iff]
    exact ⟨fun h => ⟨sub k h, h⟩, fun h => h.2⟩
  rw [e]
  exact List.length_filter_lt_length_iff_exists.mpr ⟨y, h1, by simpa using h2⟩
theorem rise_le {xs ys : List Int} (hx : xs.Pairwise (· < ·)) (hy : ys.Pairwise (· < ·)) (sub : ∀ x ∈ xs, x ∈ ys) : xs.length ≤ ys.length := by
  have e : xs = ys.filter fun z => decide (z ∈ xs) := rise_eq hx (rise_filter _ hy) fun k => by
    rw [List.mem_filter, decide_eq_true_iff]
    exact ⟨fun h => ⟨sub k h, h⟩, fun h => h.2⟩
  rw [e]
  exact List.length_filter_le _ _
/-- a rising list of marks between what stands at first and what comes about -/
structure OkR (n : Nat) (b : List Int) (ds : List Deed) (lo : List Int) (R : List Int) : Prop where
  up : R.Pairwise (· < ·)
  rg : ∀ x ∈ R, 0 ≤ x ∧ x < (n : Int)
  lo' : ∀ x ∈ b, x ∈ R
  hi : ∀ x ∈ R, Comes b ds lo x
theorem OkR.len {n : Nat} {b : List Int} {ds : List Deed} {lo R : List Int} (h : OkR n b ds lo R) : R.length ≤ n := by
  have := rise_len h.up h.rg (by omega)
  omega
/-- nothing more comes by the deeds ahead of the i-th -/
def ClosedTo (i : Nat) (ds : List Deed) (lo R : List Int) : Prop := ∀ (k : Nat) d, k < i → ds[k]? = some d → ((k : Nat) : Int) ∉ lo → (∀ n, n ∈ d.needs → n ∈ R) → ∀ m, m ∈ d.sets → m ∈ R
theorem comes_closed {b : List Int} {ds : List Deed} {lo R : List Int} (h1 : ∀ x ∈ b, x ∈ R) (h2 : ClosedTo ds.length ds lo R) : ∀ m, Comes b ds lo m → m ∈ R := by
  intro m h
  induction h with
  | start h => exact h1 _ h
  | deed e n _ hm ih => exact h2 _ _ (List.getElem?_eq_some_iff.mp e).1 e n ih _ hm
theorem OkR.step {n : Nat} {b : List Int} {ds : List Deed} {lo R ns : List Int} {k : Nat} {d : Deed} (h : OkR n b ds lo R) (e : ds[k]? = some d) (hk : ((k : Nat) : Int) ∉ lo) (hn : ∀ m, m ∈ d.needs → m ∈ R) (hs : ∀ m ∈ d.sets, 0 ≤ m ∧ m < (n : Int))
    (h1 : ns.Pairwise (· < ·)) (h2 : ∀ m, m ∈ ns ↔ m ∈ R ∨ m ∈ d.sets) : OkR n b ds lo ns := by
  refine ⟨h1, fun x hx => ?_, fun x hx => (h2 x).mpr (.inl (h.lo' x hx)), fun x hx => ?_⟩
  · rcases (h2 x).mp hx with z | z
    · exact h.rg x z
    · exact hs x z
  · rcases (h2 x).mp hx with z | z
    · exact h.hi x z
    · exact .deed e hk (fun m hm => h.hi m (hn m hm)) z
end K
/-! M2: the law's dice. -/
namespace K
open PySem DL L2
/-- the list that draws are made from -/
structure Dice (xs : List Int) : Prop where
  out : ∃ a b rest, xs = a :: b :: rest ∧ (0 ≤ a ∧ a < 2147483647) ∧ 0 ≤ b ∧ (∀ c ∈ rest, 0 ≤ c) ∧ rest.length ≤ 63
theorem Dice.mk' {a b : Int} {rest : List Int} (h1 : 0 ≤ a ∧ a < 2147483647) (h2 : 0 ≤ b) (h3 : ∀ c ∈ rest, 0 ≤ c) (h4 : rest.length ≤ 63) : Dice (a :: b :: rest) := ⟨a, b, rest, rfl, h1, h2, h3, h4⟩
abbrev dc (p : Addr) (xs : List Int) : SV := .ow p (.lst (xs.map .int))
theorem perm_erase {α : Type} : ∀ {l : List α} {i : Nat} (h : i < l.length), (l[i] :: l.eraseIdx i).Perm l
  | a :: l, 0, _ => .refl _
  | a :: l, i + 1, h => .trans (.swap _ _ _) (.cons a (perm_erase (l := l) (i := i) (by simpa using h)))
abbrev L26 : Str := "abcdefghijklmnopqrstuvwxyz"
def rotS (r : Int) : Str := cutS L26 (some r) none ++ cutS L26 none (some r)
def sgn (z : Str) (i : Nat) : Str := ⟨#[z.cps.toList.getD i 0]⟩
def namesOf (z : Str) : List Str :=
  [sgn z 0, sgn z 0 ++ sgn z 1, sgn z 1 ++ sgn z 0, repS (sgn z 2) 6, repS (sgn z 2) 5, cutS z (some 3) (some 9), sgn z 1]
  ++ (cutS z (some 3) (some 12)).cps.toList.map fun c => repS (sgn z 2) 5 ++ ⟨#[c]⟩
theorem names_good : ∀ r : Fin 26, (rotS (r.val : Int)).cps.toList.length = 26 ∧ (namesOf (rotS (r.val : Int))).length = 16 ∧ (namesOf (rotS (r.val : Int))).Nodup ∧ ((namesOf (rotS (r.val : Int))).all isName) = true := by decide +kernel
theorem perm_map {α : Type} {f : α → D} : ∀ {es : List D} {zs : List α}, es.Perm (zs.map f) → ∃ ns : List α, es = ns.map f ∧ ns.Perm zs := by
  have go : ∀ {es fs : List D}, es.Perm fs → ∀ zs : List α, fs = zs.map f → ∃ ns : List α, es = ns.map f ∧ ns.Perm zs := by
    intro es fs h
    induction h with
    | nil => intro zs e; exact ⟨[], rfl, by cases zs with | nil => exact .refl _ | cons a b => cases e⟩
    | cons x h ih =>
      intro zs e
      cases zs with
      | nil => cases e
      | cons z zs =>
        injection e with e1 e2
        subst e1
        obtain ⟨ns, rfl, p⟩ := ih zs e2
        exact ⟨z :: ns, rfl, .cons _ p⟩
    | swap x y l =>
      intro zs e
      match zs, e with
      | a :: b :: zs, e =>
        injection e with e1 e2
        injection e2 with e2 e3
        subst e1 e2 e3
        exact ⟨b :: a :: zs, rfl, .swap _ _ _⟩
    | trans h1 h2 ih1 ih2 =>
      intro zs e
      obtain ⟨ns, rfl, p⟩ := ih2 zs e
      obtain ⟨ms, rfl, p2⟩ := ih1 ns rfl
      exact ⟨ms, rfl, p2.trans p⟩
  intro es zs h
  exact go h zs rfl
def rgI (a b : Int) : List Int := (List.range (b - a).toNat).map fun i => a + ((i : Nat) : Int)
theorem rgD_ints (a b : Int) : rgD a b = (rgI a b).map .int := by unfold rgD rgI; rw [List.map_map]; rfl
theorem rgI_up (a b : Int) : (rgI a b).Pairwise (· < ·) := by
  unfold rgI
  rw [List.pairwise_map]
  exact List.Pairwise.imp (fun h => by omega) List.pairwise_lt_range
theorem rgI_mem {a b x : Int} : x ∈ rgI a b ↔ a ≤ x ∧ x < b := by
  unfold rgI
  rw [List.mem_map]
  constructor
  · rintro ⟨i, h, rfl⟩
    have := List.mem_range.mp h
    omega
  · rintro ⟨h1, h2⟩
    exact ⟨(x - a).toNat, List.mem_range.mpr (by omega), by omega⟩
theorem rgI_len (a b : Int) : (rgI a b).length = (b - a).toNat := by unfold rgI; rw [List.length_map, List.length_range]
theorem nodup_up {xs : List Int} (h : xs.Pairwise (· < ·)) : xs.Nodup := h.imp fun h => by omega
theorem up_of {xs : List Int} (h1 : xs.Pairwise (· ≤ ·)) (h2 : xs.Nodup) : xs.Pairwise (· < ·) := by
  refine (h1.and h2).imp fun h => ?_
  have := h.1
  have := h.2
  omega
theorem map_get? {xs : List Int} {i : Nat} (h : i < xs.length) : (xs.map PyData.int)[i]? = some (.int xs[i]) := by rw [List.getElem?_map, List.getElem?_eq_getElem h]; rfl
theorem map_app (xs : List Int) (x : Int) : xs.map PyData.int ++ [.int x] = (xs ++ [x]).map .int := by simp
theorem map_erase : ∀ (xs : List Int) (i : Nat), (xs.map PyData.int).eraseIdx i = (xs.eraseIdx i).map .int
  | [], _ => rfl
  | _ :: _, 0 => rfl
  | x :: xs, i + 1 => by simp [map_erase xs i]
theorem lt4 {r : Int} (h0 : 0 ≤ r) (h1 : r < 4) : r = 0 ∨ r = 1 ∨ r = 2 ∨ r = 3 := by omega
theorem lt3 {r : Int} (h0 : 0 ≤ r) (h1 : r < 3) : r = 0 ∨ r = 1 ∨ r = 2 := by omega
theorem lt2 {r : Int} (h0 : 0 ≤ r) (h1 : r < 2) : r = 0 ∨ r = 1 := by omega
theorem marks1 {r m : Int} (h0 : 0 ≤ r) (h1 : r < m) : areMarks [r] m = true := areMarks_iff.mpr ⟨List.pairwise_singleton _ _, fun x hx => by rw [List.mem_singleton.mp hx]; exact ⟨h0, h1⟩⟩
theorem cut_sums : ∀ r : Fin 26, (cutS L26 (some (r.val : Int)) none).length + (cutS L26 none (some (r.val : Int))).length ≤ 1000 := by decide +kernel
theorem cut_sum {r : Int} (h0 : 0 ≤ r) (h1 : r < 26) : (cutS L26 (some r) none).length + (cutS L26 none (some r)).length ≤ 1000 := by
  have h := cut_sums ⟨r.toNat, by omega⟩
  have e : ((r.toNat : Nat) : Int) = r := by omega
  simpa only [e] using h
theorem rot26 {r : Int} (h0 : 0 ≤ r) (h1 : r < 26) : ∃ c0 c1 c2 c3 c4 c5 c6 c7 c8 c9 c10 c11 c12 c13 c14 c15 c16 c17 c18 c19 c20 c21 c22 c23 c24 c25 : Nat,
    rotS r = ⟨⟨[c0, c1, c2, c3, c4, c5, c6, c7, c8, c9, c10, c11, c12, c13, c14, c15, c16, c17, c18, c19, c20, c21, c22, c23, c24, c25]⟩⟩ ∧ (namesOf (rotS r)).length = 16 ∧ (namesOf (rotS r)).Nodup ∧ ∀ z ∈ namesOf (rotS r), isName z = true := by
  obtain ⟨h2, h3, h4, h5⟩ := names_good ⟨r.toNat, by omega⟩
  have e : ((r.toNat : Nat) : Int) = r := by omega
  simp only [e] at h2 h3 h4 h5
  generalize hz : rotS r = z at *
  obtain ⟨⟨l⟩⟩ := z
  have hl : l.length = 26 := h2
  match l, hl with
  | [c0, c1, c2, c3, c4, c5, c6, c7, c8, c9, c10, c11, c12, c13, c14, c15, c16, c17, c18, c19, c20, c21, c22, c23, c24, c25], _ => exact ⟨_, _, _, _, _, _, _, _, _, _, _, _, _, _, _, _, _, _, _, _, _, _, _, _, _, _, rfl, h3, h4, List.all_eq_true.mp h5⟩
end K
namespace K
open PySem PySem.Spec PyProof.Rows L2 DL
local macro_rules | `(tactic| walk_at "nod") => `(tactic| first | rfl | exact noD_tI _ | exact noD_ints _ | exact noD_tIs _ | (simp [noD, noDs, noDs_map, noDs_app, noDs_all]; done))
local macro_rules | `(tactic| walk_at "w") => `(tactic| conv => whnf)
local macro_rules | `(tactic| walk_at "side") => `(tactic| first | rfl | exact True.intro | assumption | exact shal_nil (by walk_at "nod") | exact shal_int (by walk_at "nod") | exact shal_bool (by walk_at "nod") | exact shal_str (by walk_at "nod") | exact shal_nilT (by walk_at "nod") | exact flat_ints _ | exact flat_strs _ | omega | exact le_line (Nat.le_of_ble_eq_true rfl))
local macro_rules | `(tactic| walk_at "lc") => `(tactic| first | exact ⟨rfl, fun _ => ⟨rfl, rfl⟩, fun _ => rfl⟩ | exact ⟨rfl, fun _ => ⟨rfl, rfl⟩, fun z => (by cases z)⟩ | exact ⟨fun _ => ⟨rfl, rfl⟩, fun _ => rfl⟩ | exact ⟨fun _ => ⟨rfl, rfl⟩, fun z => (by cases z)⟩)
local macro_rules | `(tactic| walk_at "lch") => `(tactic| first | exact ⟨by simp [*], fun _ => ⟨rfl, rfl⟩, fun _ => rfl⟩ | exact ⟨by simp [*], fun z => (by cases z), fun _ => rfl⟩ | exact ⟨by simp [*], fun _ => ⟨rfl, rfl⟩, fun z => (by cases z)⟩)
local macro_rules | `(tactic| walk_at "go") => `(tactic| (walk_at "w"; repeat ((first | (refine And.intro ?left ?_; (case left => walk_at "side")) | (refine Br.t ?_) | (refine Br.f ?_)); walk_at "w")))
section
variable {P : Program} {w : World} {K : PySem.W.Frag} {mg : Str → Option Value} {base : Heap}
abbrev s__law_dice : Stmt := topS 22
abbrev N__law_dice : List Str := ["_law_script", "_law_k", "_law_found", "_law_cell"]
theorem sc__law_dice : FnScope N__law_dice ["_law_script", "_law_k"] (defScope s__law_dice) := ⟨rfl, rfl, rfl, by decide +kernel, rfl, by decide +kernel, by decide +kernel⟩
def sp_dice : SpD := fun Γ Q _ => ∃ (ns : List Int) (k : Int), Γ = [.fz (lI ns), .fz (.int k)] ∧ ns.length ≤ 63 ∧ (0 ≤ k ∧ k < 1000) ∧ ∀ p xs, Dice xs → Q (dc p xs) Γ
theorem ms_dice : MonoSp sp_dice := fun Γ Q Q' E E' h _ ⟨y, k, e, g, g2, q⟩ => ⟨y, k, e, g, g2, fun p xs d => h _ _ (q p xs d)⟩
theorem ok_dice {f : Addr} {fd : FuncData} (F : Fun K "_law_dice" "_law_dice" s__law_dice f fd) (B : Bl mg) : FnOk P w K mg base CX0 1 f fd ["_law_script", "_law_k"] (liftSp K 2 sp_dice) := by
  refine fnd F sc__law_dice 2 rfl ms_dice (fun X cdv A outer s H E hX hr => ?_)
  subst hX
  have hu := hu64 hr
  refine ⟨_, (pds_cons (pd_set 2 (pdv 1) sc__law_dice.nd)
 (pds_cons (pd_for PassesOwn.never rfl (pid_seq (pdv 0)) (pgd_name 3 sc__law_dice.nd) (pds_one (pd_set 2 (pd_op od_mod (pd_op od_add (pd_op od_mul (pdv 2) pd_int) (pd_callB cd_abs rfl B.abs bt_abs (pad_cons (pdv 3) pad_nil))) pd_int) sc__law_dice.nd)))
 (pds_one (pd_ret (pd_op od_add (pd_lst (pad_cons (pdv 2) (pad_cons pd_int pad_nil))) (pd_lc [("_law_cell", 3)] rfl sc__law_dice.nd (pid_seq (pdv 0)) (blkOk_by (N := N__law_dice) (sc := defScope s__law_dice) (by decide +kernel)) (fun _ _ _ _ _ => pgc_name 3 sc__law_dice.nd) (fun _ _ _ _ _ => pbs_one (pb_cmp od_ge (pdv 3) (pd_op od_pow pd_int pd_int))) (fun _ _ _ _ _ => (pdv 3)))))))), fun Γ Q E' hl hsp => ?_⟩
  obtain ⟨ns, k, rfl, g, ⟨k0, k1⟩, q⟩ := hsp
  walk_at "go"
  intro mf
  refine ForR.ix (fun i Γ => ∃ (a : Int) (c : SV), Γ = [.fz (lI ns), .fz (.int k), .fz (.int a), c] ∧ 0 ≤ a ∧ a < 2147483647) ⟨k, _, rfl, k0, by omega⟩ (fun _ _ _ _ => trivial) (fun i d Γ ed hi => ?_) (fun Γ hi => ?_)
  · obtain ⟨a, c, rfl, h0, h1⟩ := hi
    obtain ⟨v, e1, rfl⟩ := map_at ed
    walk_at "w"
    refine ⟨.inr (by omega), ?_⟩
    walk_at "go"
    refine ⟨_, _, rfl, Int.emod_nonneg _ (by decide), Int.emod_lt_of_pos _ (by decide)⟩
  · obtain ⟨a, c, rfl, h0, h1⟩ := hi
    walk_at "w"
    intro p
    walk_at "w"
    intro mc
    refine LcR.ints mc (fun v => decide ((10 : Int) ^ (18 : Int).toNat ≤ v)) .int trivial (fun v hv => ?_) (fun b => ?_)
    · walk_at "w"
      refine ⟨⟨by decide, by decide, by decide⟩, ?_⟩
      walk_at "go"
      walk_at "lc"
    · walk_at "w"
      refine ⟨?_, ?_⟩
      · have := List.length_filter_le (fun v => decide ((10 : Int) ^ (18 : Int).toNat ≤ v)) ns
        simp only [List.length_cons, List.length_nil, List.length_map]
        exact le_line (by omega)
      · intro b2
        walk_at "w"
        refine ⟨rfl, q b2 (a :: 0 :: (ns.filter fun v => decide ((10 : Int) ^ (18 : Int).toNat ≤ v))) (Dice.mk' ⟨h0, h1⟩ (by decide) (fun c hc => ?_) ?_)⟩
        · have := (List.mem_filter.mp hc).2
          have h2 : (10 : Int) ^ (18 : Int).toNat ≤ c := of_decide_eq_true this
          exact Int.le_trans (by decide) h2
        · exact Nat.le_trans (List.length_filter_le _ _) g

end
end K
namespace K
open PySem PySem.Spec PyProof.Rows L2 DL
local macro_rules | `(tactic| walk_at "nod") => `(tactic| first | rfl | exact noD_tI _ | exact noD_ints _ | exact noD_tIs _ | (simp [noD, noDs, noDs_map, noDs_app, noDs_all]; done))
local macro_rules | `(tactic| walk_at "w") => `(tactic| conv => whnf)
local macro_rules | `(tactic| walk_at "side") => `(tactic| first | rfl | exact True.intro | assumption | exact shal_nil (by walk_at "nod") | exact shal_int (by walk_at "nod") | exact shal_bool (by walk_at "nod") | exact shal_str (by walk_at "nod") | exact shal_nilT (by walk_at "nod") | exact flat_ints _ | exact flat_strs _ | omega | exact le_line (Nat.le_of_ble_eq_true rfl))
local macro_rules | `(tactic| walk_at "lc") => `(tactic| first | exact ⟨rfl, fun _ => ⟨rfl, rfl⟩, fun _ => rfl⟩ | exact ⟨rfl, fun _ => ⟨rfl, rfl⟩, fun z => (by cases z)⟩ | exact ⟨fun _ => ⟨rfl, rfl⟩, fun _ => rfl⟩ | exact ⟨fun _ => ⟨rfl, rfl⟩, fun z => (by cases z)⟩)
local macro_rules | `(tactic| walk_at "lch") => `(tactic| first | exact ⟨by simp [*], fun _ => ⟨rfl, rfl⟩, fun _ => rfl⟩ | exact ⟨by simp [*], fun z => (by cases z), fun _ => rfl⟩ | exact ⟨by simp [*], fun _ => ⟨rfl, rfl⟩, fun z => (by cases z)⟩)
local macro_rules | `(tactic| walk_at "go") => `(tactic| (walk_at "w"; repeat ((first | (refine And.intro ?left ?_; (case left => walk_at "side")) | (refine Br.t ?_) | (refine Br.f ?_)); walk_at "w")))
section
variable {P : Program} {w : World} {K : PySem.W.Frag} {mg : Str → Option Value} {base : Heap}
abbrev s__law_off : Stmt := topS 23
abbrev N__law_off : List Str := ["_law_d", "_law_upto", "_law_found"]
theorem sc__law_off : FnScope N__law_off ["_law_d", "_law_upto"] (defScope s__law_off) := ⟨rfl, rfl, rfl, by decide +kernel, rfl, by decide +kernel, by decide +kernel⟩
def sp_off : SpD := fun Γ Q _ => ∃ (p : Addr) (xs : List Int) (u : Int), Γ = [dc p xs, .fz (.int u)] ∧ Dice xs ∧ (0 < u ∧ u < 1073741824) ∧ ∀ r xs', Dice xs' → 0 ≤ r → r < u → Q (.fz (.int r)) [dc p xs', .fz (.int u)]
theorem ms_off : MonoSp sp_off := fun Γ Q Q' E E' h _ ⟨p, xs, u, e, g, g2, q⟩ => ⟨p, xs, u, e, g, g2, fun r xs' d h1 h2 => h _ _ (q r xs' d h1 h2)⟩
theorem ok_off {f : Addr} {fd : FuncData} (F : Fun K "_law_off" "_law_off" s__law_off f fd) (B : Bl mg) : FnOk P w K mg base CX0 1 f fd ["_law_d", "_law_upto"] (liftSp K 2 sp_off) := by
  refine fnd F sc__law_off 2 rfl ms_off (fun X cdv A outer s H E hX hr => ?_)
  subst hX
  have hu := hu64 hr
  refine ⟨_, (pds_cons (pd_if (PBW.pb (pbw_and (pb_cmp (od_eq hu) (pd_ix (pdv 0) pd_int) pd_int) (pbw_and1 (pb_cmp od_gt (pd_callB cd_len rfl B.len bt_len (pad_cons (pdv 0) pad_nil)) pd_int)))) (pds_one (pd_putL 0 (pv 0) pd_int (pd_mt 0 mt_popi PySem.F.plainAttrs_list PySem.F.slot_list_pop PySem.F.type_list_pop (pv 0) (pad_cons pd_int pad_nil)))) pds_nil)
 (pds_cons (pd_if (pb_cmp od_gt (pd_ix (pdv 0) pd_int) pd_int) (pds_cons (pd_set 2 (pd_op od_mod (pd_ix (pdv 0) pd_int) (pdv 1)) sc__law_off.nd)
 (pds_cons (pd_putL 0 (pv 0) pd_int (pd_op od_div (pd_ix (pdv 0) pd_int) (pdv 1)))
 (pds_one (pd_ret (pdv 2))))) pds_nil)
 (pds_cons (pd_putL 0 (pv 0) pd_int (pd_op od_mod (pd_op od_add (pd_op od_mul (pd_ix (pdv 0) pd_int) pd_int) pd_int) pd_int))
 (pds_one (pd_ret (pd_op od_mod (pd_op od_div (pd_ix (pdv 0) pd_int) pd_int) (pdv 1))))))), fun Γ Q E' hl hsp => ?_⟩
  obtain ⟨p, xs, u, rfl, dx, ⟨u0, u1⟩, q⟩ := hsp
  obtain ⟨a, b, rest, rfl, ⟨a0, a1⟩, b0, r0, r1⟩ := dx.out
  walk_at "go"
  rw [eqv_int]
  refine ⟨fun h1 => ?_, fun h1 => ?_⟩
  · walk_at "go"
    cases rest with
    | nil =>
      refine Br.f ?_
      walk_at "go"
      refine ⟨fun h2 => ?_, fun h2 => ?_⟩
      · have h2 : 0 < b := of_decide_eq_true h2
        walk_at "w"
        refine ⟨u0, ?_⟩
        walk_at "w"
        refine ⟨rfl, ?_⟩
        walk_at "w"
        refine ⟨⟨u0, u1⟩, ?_⟩
        walk_at "go"
        exact back_ow (q _ (a :: b / u :: []) (Dice.mk' ⟨a0, a1⟩ (Int.ediv_nonneg b0 (Int.le_of_lt u0)) r0 r1) (Int.emod_nonneg _ (Int.ne_of_gt u0)) (Int.emod_lt_of_pos _ u0))
      · walk_at "w"
        refine ⟨.inr (by omega), ?_⟩
        walk_at "go"
        refine ⟨⟨by decide, by decide⟩, ?_⟩
        walk_at "w"
        refine ⟨u0, ?_⟩
        walk_at "go"
        exact back_ow (q _ ((a * 48271 + 11) % 2147483647 :: b :: []) (Dice.mk' ⟨Int.emod_nonneg _ (by decide), Int.emod_lt_of_pos _ (by decide)⟩ b0 r0 r1) (Int.emod_nonneg _ (Int.ne_of_gt u0)) (Int.emod_lt_of_pos _ u0))
    | cons c rest =>
      refine ⟨fun _ => ?_, fun h => ?_⟩
      · walk_at "go"
        have c0 : 0 ≤ c := r0 c List.mem_cons_self
        have r0' : ∀ z ∈ rest, 0 ≤ z := fun z hz => r0 z (List.mem_cons_of_mem _ hz)
        have r1' : rest.length ≤ 63 := Nat.le_of_succ_le r1
        refine ⟨fun h2 => ?_, fun h2 => ?_⟩
        · have h2 : 0 < c := of_decide_eq_true h2
          walk_at "w"
          refine ⟨u0, ?_⟩
          walk_at "w"
          refine ⟨rfl, ?_⟩
          walk_at "w"
          refine ⟨⟨u0, u1⟩, ?_⟩
          walk_at "go"
          exact back_ow (q _ (a :: c / u :: rest) (Dice.mk' ⟨a0, a1⟩ (Int.ediv_nonneg c0 (Int.le_of_lt u0)) r0' r1') (Int.emod_nonneg _ (Int.ne_of_gt u0)) (Int.emod_lt_of_pos _ u0))
        · walk_at "w"
          refine ⟨.inr (by omega), ?_⟩
          walk_at "go"
          refine ⟨⟨by decide, by decide⟩, ?_⟩
          walk_at "w"
          refine ⟨u0, ?_⟩
          walk_at "go"
          exact back_ow (q _ ((a * 48271 + 11) % 2147483647 :: c :: rest) (Dice.mk' ⟨Int.emod_nonneg _ (by decide), Int.emod_lt_of_pos _ (by decide)⟩ c0 r0' r1') (Int.emod_nonneg _ (Int.ne_of_gt u0)) (Int.emod_lt_of_pos _ u0))
      · exfalso
        have h := of_decide_eq_false h
        simp only [List.length_map, List.length_cons] at h
        omega
  · walk_at "go"
    walk_at "go"
    refine ⟨fun h2 => ?_, fun h2 => ?_⟩
    · have h2 : 0 < b := of_decide_eq_true h2
      walk_at "w"
      refine ⟨u0, ?_⟩
      walk_at "w"
      refine ⟨rfl, ?_⟩
      walk_at "w"
      refine ⟨⟨u0, u1⟩, ?_⟩
      walk_at "go"
      exact back_ow (q _ (a :: b / u :: rest) (Dice.mk' ⟨a0, a1⟩ (Int.ediv_nonneg b0 (Int.le_of_lt u0)) r0 r1) (Int.emod_nonneg _ (Int.ne_of_gt u0)) (Int.emod_lt_of_pos _ u0))
    · walk_at "w"
      refine ⟨.inr (by omega), ?_⟩
      walk_at "go"
      refine ⟨⟨by decide, by decide⟩, ?_⟩
      walk_at "w"
      refine ⟨u0, ?_⟩
      walk_at "go"
      exact back_ow (q _ ((a * 48271 + 11) % 2147483647 :: b :: rest) (Dice.mk' ⟨Int.emod_nonneg _ (by decide), Int.emod_lt_of_pos _ (by decide)⟩ b0 r0 r1) (Int.emod_nonneg _ (Int.ne_of_gt u0)) (Int.emod_lt_of_pos _ u0))

end
end K
namespace K
open PySem PySem.Spec PyProof.Rows L2 DL
local macro_rules | `(tactic| walk_at "nod") => `(tactic| first | rfl | exact noD_tI _ | exact noD_ints _ | exact noD_tIs _ | (simp [noD, noDs, noDs_map, noDs_app, noDs_all]; done))
local macro_rules | `(tactic| walk_at "w") => `(tactic| conv => whnf)
local macro_rules | `(tactic| walk_at "side") => `(tactic| first | rfl | exact True.intro | assumption | exact shal_nil (by walk_at "nod") | exact shal_int (by walk_at "nod") | exact shal_bool (by walk_at "nod") | exact shal_str (by walk_at "nod") | exact shal_nilT (by walk_at "nod") | exact flat_ints _ | exact flat_strs _ | omega | exact le_line (Nat.le_of_ble_eq_true rfl))
local macro_rules | `(tactic| walk_at "lc") => `(tactic| first | exact ⟨rfl, fun _ => ⟨rfl, rfl⟩, fun _ => rfl⟩ | exact ⟨rfl, fun _ => ⟨rfl, rfl⟩, fun z => (by cases z)⟩ | exact ⟨fun _ => ⟨rfl, rfl⟩, fun _ => rfl⟩ | exact ⟨fun _ => ⟨rfl, rfl⟩, fun z => (by cases z)⟩)
local macro_rules | `(tactic| walk_at "lch") => `(tactic| first | exact ⟨by simp [*], fun _ => ⟨rfl, rfl⟩, fun _ => rfl⟩ | exact ⟨by simp [*], fun z => (by cases z), fun _ => rfl⟩ | exact ⟨by simp [*], fun _ => ⟨rfl, rfl⟩, fun z => (by cases z)⟩)
local macro_rules | `(tactic| walk_at "go") => `(tactic| (walk_at "w"; repeat ((first | (refine And.intro ?left ?_; (case left => walk_at "side")) | (refine Br.t ?_) | (refine Br.f ?_)); walk_at "w")))
section
variable {P : Program} {w : World} {K : PySem.W.Frag} {mg : Str → Option Value} {base : Heap}
abbrev s__law_mixed : Stmt := topS 25
abbrev N__law_mixed : List Str := ["_law_d", "_law_row", "_law_left", "_law_found"]
theorem sc__law_mixed : FnScope N__law_mixed ["_law_d", "_law_row"] (defScope s__law_mixed) := ⟨rfl, rfl, rfl, by decide +kernel, rfl, by decide +kernel, by decide +kernel⟩
def sp_mixed : SpD := fun Γ Q _ => ∃ (p : Addr) (xs : List Int) (ds : List D), Γ = [dc p xs, .fz (.list ds)] ∧ Dice xs ∧ ds.length ≤ 1000 ∧ noDs ds = true ∧ ∀ xs' es, Dice xs' → es.Perm ds → Q (.fz (.list es)) [dc p xs', .fz (.list ds)]
theorem ms_mixed : MonoSp sp_mixed := fun Γ Q Q' E E' h _ ⟨p, xs, u, e, g, g2, g3, q⟩ => ⟨p, xs, u, e, g, g2, g3, fun xs' es d h1 => h _ _ (q xs' es d h1)⟩
theorem ok_mixed {f : Addr} {fd : FuncData} (F : Fun K "_law_mixed" "_law_mixed" s__law_mixed f fd) (B : Bl mg) (D__law_off : DefOk P w K mg base 1 "_law_off" ["_law_d", "_law_upto"] 2 sp_off) : FnOk P w K mg base CX0 2 f fd ["_law_d", "_law_row"] (liftSp K 2 sp_mixed) := by
  refine fnd F sc__law_mixed 2 rfl ms_mixed (fun X cdv A outer s H E hX hr => ?_)
  subst hX
  have hu := hu64 hr
  refine ⟨_, (pds_cons (pd_set 2 (pd_callTy cd_list rfl B.list bt_list (pad_cons (pdv 1) pad_nil)) sc__law_mixed.nd)
 (pds_cons (pd_set 3 (pd_lst pad_nil) sc__law_mixed.nd)
 (pds_cons (pd_while PassesOwn.never (pb_cmp (od_ne hu) (pdv 2) (pd_lst pad_nil)) (pds_one (pd_expr (pd_mt 3 mt_app PySem.F.plainAttrs_list PySem.F.slot_list_append PySem.F.type_list_append (pv 3) (pad_cons (pd_mt 2 mt_popi PySem.F.plainAttrs_list PySem.F.slot_list_pop PySem.F.type_list_pop (pv 2) (pad_cons (pd_def D__law_off hr (pad_cons (pdv 0) (pad_cons (pd_callB cd_len rfl B.len bt_len (pad_cons (pdv 2) pad_nil)) pad_nil))) pad_nil)) pad_nil)))))
 (pds_one (pd_ret (pd_fz (pdv 3))))))), fun Γ Q E' hl hsp => ?_⟩
  obtain ⟨p, xs, ds, rfl, dx, dl, nd, q⟩ := hsp
  walk_at "go"
  intro p2
  walk_at "go"
  intro p3
  walk_at "go"
  intro mw
  refine ⟨fun m Γ => ∃ xs left found, Γ = [dc p xs, .fz (.list ds), .ow p2 (.lst left), .ow p3 (.lst found)] ∧ Dice xs ∧ (found ++ left).Perm ds ∧ m = left.length, ⟨_, xs, ds, [], rfl, dx, .refl _, rfl⟩, ?_⟩
  rintro m Γ ⟨xs, left, found, rfl, dx, pm, rfl⟩
  have ll : found.length + left.length = ds.length := by rw [← List.length_append]; exact pm.length_eq
  walk_at "go"
  intro p4
  walk_at "go"
  have nl : noDs left = true := by
    rw [noDs_all, List.all_eq_true]
    intro d hd
    rw [noDs_all, List.all_eq_true] at nd
    exact nd d (pm.mem_iff.mp (List.mem_append_right _ hd))
  refine ⟨shal_nil nl, ?_⟩
  walk_at "go"
  rw [eqv_nil]
  refine ⟨fun h => ?_, fun h => ?_⟩
  · have hne : left ≠ [] := by rintro rfl; cases h
    have hl0 : 0 < left.length := List.length_pos_iff.mpr hne
    walk_at "go"
    refine ⟨p, xs, left.length, rfl, dx, ⟨by omega, by omega⟩, fun r xs' dx' r0 r1 => ?_⟩
    have hr2 : r.toNat < left.length := by omega
    walk_at "go"
    rw [List.getElem?_eq_getElem hr2]
    walk_at "w"
    refine ⟨le_line (by omega), ?_⟩
    walk_at "w"
    refine ⟨_, ?_, xs', left.eraseIdx r.toNat, found ++ [left[r.toNat]], rfl, dx', ?_, rfl⟩
    · rw [List.length_eraseIdx_of_lt hr2]; omega
    · refine .trans ?_ pm
      rw [List.append_assoc, List.singleton_append]
      exact .append_left _ (perm_erase hr2)
  · have hne : left = [] := by cases left with | nil => rfl | cons a b => cases h
    subst hne
    walk_at "go"
    rw [List.append_nil] at pm
    exact back_ow (q _ _ dx pm)

end
end K
namespace K
open PySem PySem.Spec PyProof.Rows L2 DL
local macro_rules | `(tactic| walk_at "nod") => `(tactic| first | rfl | exact noD_tI _ | exact noD_ints _ | exact noD_tIs _ | (simp [noD, noDs, noDs_map, noDs_app, noDs_all]; done))
local macro_rules | `(tactic| walk_at "w") => `(tactic| conv => whnf)
local macro_rules | `(tactic| walk_at "side") => `(tactic| first | rfl | exact True.intro | assumption | exact shal_nil (by walk_at "nod") | exact shal_int (by walk_at "nod") | exact shal_bool (by walk_at "nod") | exact shal_str (by walk_at "nod") | exact shal_nilT (by walk_at "nod") | exact flat_ints _ | exact flat_strs _ | omega | exact le_line (Nat.le_of_ble_eq_true rfl))
local macro_rules | `(tactic| walk_at "lc") => `(tactic| first | exact ⟨rfl, fun _ => ⟨rfl, rfl⟩, fun _ => rfl⟩ | exact ⟨rfl, fun _ => ⟨rfl, rfl⟩, fun z => (by cases z)⟩ | exact ⟨fun _ => ⟨rfl, rfl⟩, fun _ => rfl⟩ | exact ⟨fun _ => ⟨rfl, rfl⟩, fun z => (by cases z)⟩)
local macro_rules | `(tactic| walk_at "lch") => `(tactic| first | exact ⟨by simp [*], fun _ => ⟨rfl, rfl⟩, fun _ => rfl⟩ | exact ⟨by simp [*], fun z => (by cases z), fun _ => rfl⟩ | exact ⟨by simp [*], fun _ => ⟨rfl, rfl⟩, fun z => (by cases z)⟩)
local macro_rules | `(tactic| walk_at "go") => `(tactic| (walk_at "w"; repeat ((first | (refine And.intro ?left ?_; (case left => walk_at "side")) | (refine Br.t ?_) | (refine Br.f ?_)); walk_at "w")))
section
variable {P : Program} {w : World} {K : PySem.W.Frag} {mg : Str → Option Value} {base : Heap}
abbrev s__law_names : Stmt := topS 26
abbrev N__law_names : List Str := ["_law_d", "_law_many", "_law_signs", "_law_turn", "_law_found", "_law_sign"]
theorem sc__law_names : FnScope N__law_names ["_law_d", "_law_many"] (defScope s__law_names) := ⟨rfl, rfl, rfl, by decide +kernel, rfl, by decide +kernel, by decide +kernel⟩
def sp_names : SpD := fun Γ Q _ => ∃ (p : Addr) (xs : List Int) (m : Int), Γ = [dc p xs, .fz (.int m)] ∧ Dice xs ∧ (0 ≤ m ∧ m ≤ 16) ∧ ∀ xs' (ns : List Str), Dice xs' → (ns.length : Int) = m → ns.Nodup → (∀ z ∈ ns, isName z = true) → Q (.fz (.list (ns.map .str))) [dc p xs', .fz (.int m)]
theorem ms_names : MonoSp sp_names := fun Γ Q Q' E E' h _ ⟨p, xs, u, e, g, g2, q⟩ => ⟨p, xs, u, e, g, g2, fun xs' es d h1 h2 h3 => h _ _ (q xs' es d h1 h2 h3)⟩
theorem ok_names {f : Addr} {fd : FuncData} (F : Fun K "_law_names" "_law_names" s__law_names f fd) (B : Bl mg) (D__law_off : DefOk P w K mg base 1 "_law_off" ["_law_d", "_law_upto"] 2 sp_off)
    (D__law_mixed : DefOk P w K mg base 2 "_law_mixed" ["_law_d", "_law_row"] 2 sp_mixed) : FnOk P w K mg base CX0 3 f fd ["_law_d", "_law_many"] (liftSp K 2 sp_names) := by
  refine fnd F sc__law_names 2 rfl ms_names (fun X cdv A outer s H E hX hr => ?_)
  subst hX
  have hu := hu64 hr
  refine ⟨_, (pds_cons (pd_set 2 (pd_str) sc__law_names.nd)
 (pds_cons (pd_set 3 (pd_def D__law_off hr (pad_cons (pdv 0) (pad_cons pd_int pad_nil))) sc__law_names.nd)
 (pds_cons (pd_set 2 (pd_fz (pd_op od_add (pd_slice (pdv 2) (pod_some (pdv 3)) pod_none) (pd_slice (pdv 2) pod_none (pod_some (pdv 3))))) sc__law_names.nd)
 (pds_cons (pd_set 4 (pd_fz (pd_lst (pad_cons (pd_ix (pdv 2) pd_int) (pad_cons (pd_fz (pd_op od_add (pd_ix (pdv 2) pd_int) (pd_ix (pdv 2) pd_int))) (pad_cons (pd_fz (pd_op od_add (pd_ix (pdv 2) pd_int) (pd_ix (pdv 2) pd_int))) (pad_cons (pd_op od_mul (pd_ix (pdv 2) pd_int) pd_int) (pad_cons (pd_op od_mul (pd_ix (pdv 2) pd_int) pd_int) (pad_cons (pd_fz (pd_slice (pdv 2) (pod_some pd_int) (pod_some pd_int))) (pad_cons (pd_ix (pdv 2) pd_int) pad_nil))))))))) sc__law_names.nd)
 (pds_cons (pd_set 4 (pd_fz (pd_op od_add (pdv 4) (pd_lc [("_law_sign", 5)] rfl sc__law_names.nd (pid_str (pd_slice (pdv 2) (pod_some pd_int) (pod_some pd_int))) (blkOk_by (N := N__law_names) (sc := defScope s__law_names) (by decide +kernel)) (fun _ _ _ _ _ => pgc_name 5 sc__law_names.nd) (fun _ _ _ _ _ => pbs_nil) (fun _ _ _ _ _ => (pd_fz (pd_op od_add (pd_op od_mul (pd_ix (pdv 2) pd_int) pd_int) (pdv 5))))))) sc__law_names.nd)
 (pds_one (pd_ret (pd_fz (pd_slice (pd_def D__law_mixed hr (pad_cons (pdv 0) (pad_cons (pdv 4) pad_nil))) pod_none (pod_some (pdv 1))))))))))), fun Γ Q E' hl hsp => ?_⟩
  obtain ⟨p, xs, m, rfl, dx, ⟨m0, m1⟩, q⟩ := hsp
  walk_at "go"
  refine ⟨p, xs, 26, rfl, dx, ⟨by decide, by decide⟩, fun r xs' dx' r0 r1 => ?_⟩
  walk_at "go"
  refine ⟨le_line (cut_sum r0 r1), ?_⟩
  obtain ⟨c0, c1, c2, c3, c4, c5, c6, c7, c8, c9, c10, c11, c12, c13, c14, c15, c16, c17, c18, c19, c20, c21, c22, c23, c24, c25, ez, n1, n2, n3⟩ := rot26 r0 r1
  have ez2 : cutS L26 (some r) none ++ cutS L26 none (some r) = _ := ez
  rw [ez2]
  rw [ez] at n1 n2 n3
  walk_at "go"
  have mul1 : ∀ c : Nat, (1 ≤ (⟨#[c]⟩ : Str).length ∧ (⟨#[c]⟩ : Str).length ≤ 1000) := fun c => ⟨Nat.le_of_ble_eq_true rfl, Nat.le_of_ble_eq_true rfl⟩
  refine ⟨⟨(mul1 _).1, (mul1 _).2, by decide, by decide⟩, ?_⟩
  walk_at "go"
  refine ⟨⟨(mul1 _).1, (mul1 _).2, by decide, by decide⟩, ?_⟩
  walk_at "go"
  intro p2
  walk_at "go"
  intro mc
  refine LcR.signs mc (fun _ => true) (fun c => .str (repS ⟨#[c2]⟩ 5 ++ ⟨#[c]⟩)) trivial (fun c hc => ?_) (fun p3 => ?_)
  · walk_at "go"
    refine ⟨fun _ => ?_, fun z => (by cases z)⟩
    walk_at "go"
    refine ⟨⟨(mul1 _).1, (mul1 _).2, by decide, by decide⟩, ?_⟩
    walk_at "go"
    rfl
  · walk_at "go"
    intro p4
    walk_at "go"
    refine ⟨p, xs', _, rfl, dx', Nat.le_of_ble_eq_true rfl, by first | rfl | (walk_at "nod"), fun xs2 es d2 pm => ?_⟩
    have pm2 : es.Perm ((namesOf ⟨⟨[c0, c1, c2, c3, c4, c5, c6, c7, c8, c9, c10, c11, c12, c13, c14, c15, c16, c17, c18, c19, c20, c21, c22, c23, c24, c25]⟩⟩).map .str) := pm
    obtain ⟨ns, rfl, pn⟩ := perm_map pm2
    walk_at "go"
    intro p5
    walk_at "go"
    have hlen : ns.length = 16 := pn.length_eq.trans n1
    obtain ⟨k, rfl⟩ : ∃ k : Nat, m = (k : Int) := ⟨m.toNat, by omega⟩
    rw [cut_to, ← List.map_take]
    refine back_ow (q _ (ns.take k) d2 ?_ ?_ ?_)
    · rw [List.length_take]; omega
    · exact (pn.nodup_iff.mpr n2).sublist (List.take_sublist _ _)
    · exact fun z hz => n3 z (pn.mem_iff.mp (List.mem_of_mem_take hz))

end
end K
namespace K
open PySem PySem.Spec PyProof.Rows L2 DL
local macro_rules | `(tactic| walk_at "nod") => `(tactic| first | rfl | exact noD_tI _ | exact noD_ints _ | exact noD_tIs _ | (simp [noD, noDs, noDs_map, noDs_app, noDs_all]; done))
local macro_rules | `(tactic| walk_at "w") => `(tactic| conv => whnf)
local macro_rules | `(tactic| walk_at "side") => `(tactic| first | rfl | exact True.intro | assumption | exact shal_nil (by walk_at "nod") | exact shal_int (by walk_at "nod") | exact shal_bool (by walk_at "nod") | exact shal_str (by walk_at "nod") | exact shal_nilT (by walk_at "nod") | exact flat_ints _ | exact flat_strs _ | omega | exact le_line (Nat.le_of_ble_eq_true rfl))
local macro_rules | `(tactic| walk_at "lc") => `(tactic| first | exact ⟨rfl, fun _ => ⟨rfl, rfl⟩, fun _ => rfl⟩ | exact ⟨rfl, fun _ => ⟨rfl, rfl⟩, fun z => (by cases z)⟩ | exact ⟨fun _ => ⟨rfl, rfl⟩, fun _ => rfl⟩ | exact ⟨fun _ => ⟨rfl, rfl⟩, fun z => (by cases z)⟩)
local macro_rules | `(tactic| walk_at "lch") => `(tactic| first | exact ⟨by simp [*], fun _ => ⟨rfl, rfl⟩, fun _ => rfl⟩ | exact ⟨by simp [*], fun z => (by cases z), fun _ => rfl⟩ | exact ⟨by simp [*], fun _ => ⟨rfl, rfl⟩, fun z => (by cases z)⟩)
local macro_rules | `(tactic| walk_at "go") => `(tactic| (walk_at "w"; repeat ((first | (refine And.intro ?left ?_; (case left => walk_at "side")) | (refine Br.t ?_) | (refine Br.f ?_)); walk_at "w")))
section
variable {P : Program} {w : World} {K : PySem.W.Frag} {mg : Str → Option Value} {base : Heap}
abbrev s__law_some : Stmt := topS 27
abbrev N__law_some : List Str := ["_law_d", "_law_many", "_law_few", "_law_left", "_law_found", "_law_turn"]
theorem sc__law_some : FnScope N__law_some ["_law_d", "_law_many", "_law_few"] (defScope s__law_some) := ⟨rfl, rfl, rfl, by decide +kernel, rfl, by decide +kernel, by decide +kernel⟩
def sp_some : SpD := fun Γ Q _ => ∃ (p : Addr) (xs : List Int) (m fw : Int), Γ = [dc p xs, .fz (.int m), .fz (.int fw)] ∧ Dice xs ∧ (0 ≤ m ∧ m ≤ 16) ∧ (0 ≤ fw ∧ fw ≤ 1000) ∧ ∀ xs' ys, Dice xs' → areMarks ys m = true → Q (.fz (tI ys)) [dc p xs', .fz (.int m), .fz (.int fw)]
theorem ms_some : MonoSp sp_some := fun Γ Q Q' E E' h _ ⟨p, xs, u, v, e, g, g2, g3, q⟩ => ⟨p, xs, u, v, e, g, g2, g3, fun xs' es d h1 => h _ _ (q xs' es d h1)⟩
theorem ok_some {f : Addr} {fd : FuncData} (F : Fun K "_law_some" "_law_some" s__law_some f fd) (B : Bl mg) (D__law_off : DefOk P w K mg base 1 "_law_off" ["_law_d", "_law_upto"] 2 sp_off) : FnOk P w K mg base CX0 2 f fd ["_law_d", "_law_many", "_law_few"] (liftSp K 3 sp_some) := by
  refine fnd F sc__law_some 3 rfl ms_some (fun X cdv A outer s H E hX hr => ?_)
  subst hX
  have hu := hu64 hr
  refine ⟨_, (pds_cons (pd_set 3 (pd_listRg rfl rfl B.list (prd1 rfl B.range (pdv 1))) sc__law_some.nd)
 (pds_cons (pd_set 4 (pd_lst pad_nil) sc__law_some.nd)
 (pds_cons (pd_for PassesOwn.never rfl (pid_rg1 rfl B.range (pd_callB (cd_min rfl) rfl B.min bt_min (pad_cons (pdv 1) (pad_cons (pd_def D__law_off hr (pad_cons (pdv 0) (pad_cons (pd_op od_add (pdv 2) pd_int) pad_nil))) pad_nil)))) (pgd_name 5 sc__law_some.nd) (pds_one (pd_expr (pd_mt 4 mt_app PySem.F.plainAttrs_list PySem.F.slot_list_append PySem.F.type_list_append (pv 4) (pad_cons (pd_mt 3 mt_popi PySem.F.plainAttrs_list PySem.F.slot_list_pop PySem.F.type_list_pop (pv 3) (pad_cons (pd_def D__law_off hr (pad_cons (pdv 0) (pad_cons (pd_callB cd_len rfl B.len bt_len (pad_cons (pdv 3) pad_nil)) pad_nil))) pad_nil)) pad_nil)))))
 (pds_one (pd_ret (pd_callTy cd_tuple rfl B.tuple bt_tuple (pad_cons (pd_callB cd_sortI rfl B.sorted bt_sorted (pad_cons (pdv 4) pad_nil)) pad_nil))))))), fun Γ Q E' hl hsp => ?_⟩
  obtain ⟨p, xs, m, fw, rfl, dx, ⟨m0, m1⟩, ⟨f0, f1⟩, q⟩ := hsp
  walk_at "go"
  refine ⟨RgOk.of_le (by decide) (by omega) (by decide) m0, fun p2 => ?_⟩
  rw [rgD_ints]
  walk_at "go"
  intro p3
  walk_at "go"
  refine ⟨p, xs, fw + 1, rfl, dx, ⟨by omega, by omega⟩, fun r xs' dx' r0 r1 => ?_⟩
  have hl0 : (rgI 0 m).length = m.toNat := by rw [rgI_len]; omega
  have n0 : 0 ≤ (if r < m then r else m) := by split <;> omega
  have n1 : (if r < m then r else m) ≤ m := by split <;> omega
  generalize hn : (if r < m then r else m) = n at n0 n1
  walk_at "go"
  simp only [hn]
  refine ⟨RgOk.of_le (by decide) (by omega) (by decide) n0, ?_⟩
  walk_at "go"
  intro mf
  refine ForR.rg (fun i Γ => ∃ xs left found c, Γ = [dc p xs, .fz (.int m), .fz (.int fw), .ow p2 (.lst (left.map .int)), .ow p3 (.lst (found.map .int)), c] ∧ Dice xs ∧ (found ++ left).Perm (rgI 0 m) ∧ found.length = i) ⟨_, rgI 0 m, [], _, rfl, dx', .refl _, rfl⟩ (fun i Γ hi ih => ?_) (fun Γ ih => ?_)
  · obtain ⟨xs, left, found, c, rfl, dx, pm, rfl⟩ := ih
    have ll : found.length + left.length = m.toNat := by rw [← List.length_append, pm.length_eq, hl0]
    have hl1 : (left.map PyData.int).length = left.length := List.length_map ..
    walk_at "go"
    refine ⟨p, xs, ((left.map PyData.int).length : Nat), rfl, dx, ⟨by omega, by omega⟩, fun r xs' dx' r0 r1 => ?_⟩
    have hr2 : r.toNat < left.length := by omega
    walk_at "go"
    rw [map_get? hr2]
    walk_at "w"
    refine ⟨by rw [List.length_map]; exact le_line (by omega), ?_⟩
    walk_at "w"
    refine ⟨xs', left.eraseIdx r.toNat, found ++ [left[r.toNat]], .fz (.int (0 + (found.length : Nat))), ?_, dx', ?_, by rw [List.length_append]; rfl⟩
    · rw [← map_app, ← map_erase]; rfl
    · refine .trans ?_ pm
      rw [List.append_assoc, List.singleton_append]
      exact .append_left _ (perm_erase hr2)
  · obtain ⟨xs, left, found, c, rfl, dx, pm, hi⟩ := ih
    walk_at "w"
    refine ⟨found, rfl, fun ys y1 y2 p4 => ?_⟩
    walk_at "go"
    refine back_ow (q _ ys dx (areMarks_iff.mpr ⟨up_of y2 ?_, fun x hx => ?_⟩))
    · exact y1.nodup_iff.mpr ((pm.nodup_iff.mpr (nodup_up (rgI_up _ _))).sublist (List.sublist_append_left _ _))
    · exact rgI_mem.mp (pm.mem_iff.mp (List.mem_append_left _ (y1.mem_iff.mp hx)))

end
end K
namespace K
open PySem PySem.Spec PyProof.Rows L2 DL
local macro_rules | `(tactic| walk_at "nod") => `(tactic| first | rfl | exact noD_tI _ | exact noD_ints _ | exact noD_tIs _ | (simp [noD, noDs, noDs_map, noDs_app, noDs_all]; done))
local macro_rules | `(tactic| walk_at "w") => `(tactic| conv => whnf)
local macro_rules | `(tactic| walk_at "side") => `(tactic| first | rfl | exact True.intro | assumption | exact shal_nil (by walk_at "nod") | exact shal_int (by walk_at "nod") | exact shal_bool (by walk_at "nod") | exact shal_str (by walk_at "nod") | exact shal_nilT (by walk_at "nod") | exact flat_ints _ | exact flat_strs _ | omega | exact le_line (Nat.le_of_ble_eq_true rfl))
local macro_rules | `(tactic| walk_at "lc") => `(tactic| first | exact ⟨rfl, fun _ => ⟨rfl, rfl⟩, fun _ => rfl⟩ | exact ⟨rfl, fun _ => ⟨rfl, rfl⟩, fun z => (by cases z)⟩ | exact ⟨fun _ => ⟨rfl, rfl⟩, fun _ => rfl⟩ | exact ⟨fun _ => ⟨rfl, rfl⟩, fun z => (by cases z)⟩)
local macro_rules | `(tactic| walk_at "lch") => `(tactic| first | exact ⟨by simp [*], fun _ => ⟨rfl, rfl⟩, fun _ => rfl⟩ | exact ⟨by simp [*], fun z => (by cases z), fun _ => rfl⟩ | exact ⟨by simp [*], fun _ => ⟨rfl, rfl⟩, fun z => (by cases z)⟩)
local macro_rules | `(tactic| walk_at "go") => `(tactic| (walk_at "w"; repeat ((first | (refine And.intro ?left ?_; (case left => walk_at "side")) | (refine Br.t ?_) | (refine Br.f ?_)); walk_at "w")))
section
variable {P : Program} {w : World} {K : PySem.W.Frag} {mg : Str → Option Value} {base : Heap}
abbrev s__law_price : Stmt := topS 28
abbrev N__law_price : List Str := ["_law_d"]
theorem sc__law_price : FnScope N__law_price ["_law_d"] (defScope s__law_price) := ⟨rfl, rfl, rfl, by decide +kernel, rfl, by decide +kernel, by decide +kernel⟩
def sp_price : SpD := fun Γ Q _ => ∃ (p : Addr) (xs : List Int), Γ = [dc p xs] ∧ Dice xs ∧ ∀ xs' (c : Int), Dice xs' → 0 ≤ c ∧ c ≤ 99 → Q (.fz (.int c)) [dc p xs']
theorem ms_price : MonoSp sp_price := fun Γ Q Q' E E' h _ ⟨p, xs, e, g, q⟩ => ⟨p, xs, e, g, fun xs' es d h1 => h _ _ (q xs' es d h1)⟩
theorem ok_price {f : Addr} {fd : FuncData} (F : Fun K "_law_price" "_law_price" s__law_price f fd) (B : Bl mg) (D__law_off : DefOk P w K mg base 1 "_law_off" ["_law_d", "_law_upto"] 2 sp_off) : FnOk P w K mg base CX0 2 f fd ["_law_d"] (liftSp K 1 sp_price) := by
  refine fnd F sc__law_price 1 rfl ms_price (fun X cdv A outer s H E hX hr => ?_)
  subst hX
  have hu := hu64 hr
  refine ⟨_, (pds_one (pd_ret (pd_ix (pd_lst (pad_cons (pd_op od_add pd_int (pd_def D__law_off hr (pad_cons (pdv 0) (pad_cons pd_int pad_nil)))) (pad_cons (pd_op od_add pd_int (pd_def D__law_off hr (pad_cons (pdv 0) (pad_cons pd_int pad_nil)))) (pad_cons pd_int (pad_cons (pd_def D__law_off hr (pad_cons (pdv 0) (pad_cons pd_int pad_nil))) pad_nil))))) (pd_def D__law_off hr (pad_cons (pdv 0) (pad_cons pd_int pad_nil)))))), fun Γ Q E' hl hsp => ?_⟩
  obtain ⟨p, xs, rfl, dx, q⟩ := hsp
  walk_at "go"
  refine ⟨p, xs, 4, rfl, dx, ⟨by decide, by decide⟩, fun r1 xs d1 r10 r11 => ?_⟩
  walk_at "go"
  refine ⟨p, xs, 4, rfl, d1, ⟨by decide, by decide⟩, fun r2 xs d2 r20 r21 => ?_⟩
  walk_at "go"
  refine ⟨p, xs, 100, rfl, d2, ⟨by decide, by decide⟩, fun r3 xs d3 r30 r31 => ?_⟩
  walk_at "go"
  intro p2
  walk_at "go"
  refine ⟨p, xs, 4, rfl, d3, ⟨by decide, by decide⟩, fun r4 xs d4 r40 r41 => ?_⟩
  rcases lt4 r40 r41 with rfl | rfl | rfl | rfl
  all_goals (walk_at "go"; exact back_ow (q _ _ d4 ⟨by omega, by omega⟩))

end
end K
namespace K
open PySem PySem.Spec PyProof.Rows L2 DL
local macro_rules | `(tactic| walk_at "nod") => `(tactic| first | rfl | exact noD_tI _ | exact noD_ints _ | exact noD_tIs _ | (simp [noD, noDs, noDs_map, noDs_app, noDs_all]; done))
local macro_rules | `(tactic| walk_at "w") => `(tactic| conv => whnf)
local macro_rules | `(tactic| walk_at "side") => `(tactic| first | rfl | exact True.intro | assumption | exact shal_nil (by walk_at "nod") | exact shal_int (by walk_at "nod") | exact shal_bool (by walk_at "nod") | exact shal_str (by walk_at "nod") | exact shal_nilT (by walk_at "nod") | exact flat_ints _ | exact flat_strs _ | omega | exact le_line (Nat.le_of_ble_eq_true rfl))
local macro_rules | `(tactic| walk_at "lc") => `(tactic| first | exact ⟨rfl, fun _ => ⟨rfl, rfl⟩, fun _ => rfl⟩ | exact ⟨rfl, fun _ => ⟨rfl, rfl⟩, fun z => (by cases z)⟩ | exact ⟨fun _ => ⟨rfl, rfl⟩, fun _ => rfl⟩ | exact ⟨fun _ => ⟨rfl, rfl⟩, fun z => (by cases z)⟩)
local macro_rules | `(tactic| walk_at "lch") => `(tactic| first | exact ⟨by simp [*], fun _ => ⟨rfl, rfl⟩, fun _ => rfl⟩ | exact ⟨by simp [*], fun z => (by cases z), fun _ => rfl⟩ | exact ⟨by simp [*], fun _ => ⟨rfl, rfl⟩, fun z => (by cases z)⟩)
local macro_rules | `(tactic| walk_at "go") => `(tactic| (walk_at "w"; repeat ((first | (refine And.intro ?left ?_; (case left => walk_at "side")) | (refine Br.t ?_) | (refine Br.f ?_)); walk_at "w")))
section
variable {P : Program} {w : World} {K : PySem.W.Frag} {mg : Str → Option Value} {base : Heap}
abbrev s__law_parts : Stmt := topS 29
abbrev N__law_parts : List Str := ["_law_d", "_law_many", "_law_way", "_law_k", "_law_one", "_law_other", "_law_mark", "_law_strikes", "_law_low", "_law_sets", "_law_needs", "_law_below"]
theorem sc__law_parts : FnScope N__law_parts ["_law_d", "_law_many", "_law_way", "_law_k"] (defScope s__law_parts) := ⟨rfl, rfl, rfl, by decide +kernel, rfl, by decide +kernel, by decide +kernel⟩
def sp_parts : SpD := fun Γ Q _ => ∃ (p : Addr) (xs : List Int) (m wy k : Int), Γ = [dc p xs, .fz (.int m), .fz (.int wy), .fz (.int k)] ∧ Dice xs ∧ (1 ≤ m ∧ m ≤ 16) ∧ (0 ≤ k ∧ k ≤ 1000) ∧ ∀ xs' ns ss ks, Dice xs' → areMarks ns m = true → areMarks ss m = true → areMarks ks m = true → (∀ x ∈ ss, x ∉ ks) → Q (.fz (.tuple [tI ns, tI ss, tI ks])) [dc p xs', .fz (.int m), .fz (.int wy), .fz (.int k)]
theorem ms_parts : MonoSp sp_parts := fun Γ Q Q' E E' h _ ⟨p, xs, m, wy, k, e, g, g2, g3, q⟩ => ⟨p, xs, m, wy, k, e, g, g2, g3, fun xs' ns ss ks d h1 h2 h3 h4 => h _ _ (q xs' ns ss ks d h1 h2 h3 h4)⟩
theorem ok_parts {f : Addr} {fd : FuncData} (F : Fun K "_law_parts" "_law_parts" s__law_parts f fd) (B : Bl mg) (D__law_off : DefOk P w K mg base 1 "_law_off" ["_law_d", "_law_upto"] 2 sp_off)
    (D__law_some : DefOk P w K mg base 2 "_law_some" ["_law_d", "_law_many", "_law_few"] 3 sp_some) : FnOk P w K mg base CX0 3 f fd ["_law_d", "_law_many", "_law_way", "_law_k"] (liftSp K 4 sp_parts) := by
  refine fnd F sc__law_parts 4 rfl ms_parts (fun X cdv A outer s H E hX hr => ?_)
  subst hX
  have hu := hu64 hr
  refine ⟨_, (pds_cons (pd_if (pb_cmp (od_eq hu) (pdv 2) pd_int) (pds_cons (pd_set 4 (pd_def D__law_off hr (pad_cons (pdv 0) (pad_cons (pdv 1) pad_nil))) sc__law_parts.nd)
 (pds_cons (pd_set 5 (pd_def D__law_off hr (pad_cons (pdv 0) (pad_cons (pdv 1) pad_nil))) sc__law_parts.nd)
 (pds_one (pd_ret (pd_tup (pad_cons (pd_tup (pad_cons (pdv 4) pad_nil)) (pad_cons (pd_tup (pad_cons (pdv 5) pad_nil)) (pad_cons (pd_ifExp (pb_cmp (od_ne hu) (pdv 4) (pdv 5)) (pd_tup (pad_cons (pdv 4) pad_nil)) (pd_tup pad_nil)) pad_nil)))))))) pds_nil)
 (pds_cons (pd_if (pb_cmp (od_eq hu) (pdv 2) pd_int) (pds_cons (pd_set 6 (pd_op od_mod (pdv 3) (pdv 1)) sc__law_parts.nd)
 (pds_cons (pd_sfz 7 (pd_setLc 7 [("_law_below", 11)] rfl sc__law_parts.nd (pid_rg1 rfl B.range (pdv 6)) (blkOk_by (N := N__law_parts) (sc := defScope s__law_parts) (by decide +kernel)) (fun _ _ _ _ _ => pgc_name 11 sc__law_parts.nd) (fun _ _ _ _ _ => pbs_one (pb_cmp (od_eq hu) (pd_def D__law_off hr (pad_cons (pdv 0) (pad_cons pd_int pad_nil))) pd_int)) (fun _ _ _ _ _ => (pdv 11))))
 (pds_one (pd_ret (pd_tup (pad_cons (pd_callTy cd_tuple rfl B.tuple bt_tuple (pad_cons (pd_lc [("_law_below", 11)] rfl sc__law_parts.nd (pid_rg1 rfl B.range (pdv 6)) (blkOk_by (N := N__law_parts) (sc := defScope s__law_parts) (by decide +kernel)) (fun _ _ _ _ _ => pgc_name 11 sc__law_parts.nd) (fun _ _ _ _ _ => pbs_one (pb_cmp (od_eq hu) (pd_def D__law_off hr (pad_cons (pdv 0) (pad_cons pd_int pad_nil))) pd_int)) (fun _ _ _ _ _ => (pdv 11))) pad_nil)) (pad_cons (pd_tup (pad_cons (pdv 6) pad_nil)) (pad_cons (pd_callTy cd_tuple rfl B.tuple bt_tuple (pad_cons (pdv 7) pad_nil)) pad_nil)))))))) pds_nil)
 (pds_cons (pd_if (pb_cmp (od_eq hu) (pdv 2) pd_int) (pds_cons (pd_set 6 (pd_op od_mod (pdv 3) (pdv 1)) sc__law_parts.nd)
 (pds_cons (pd_set 8 (pd_callB (cd_max rfl) rfl B.max bt_max (pad_cons pd_int (pad_cons (pd_op od_sub (pdv 6) pd_int) pad_nil))) sc__law_parts.nd)
 (pds_one (pd_ret (pd_tup (pad_cons (pd_tupRg rfl rfl B.tuple (prd2 rfl B.range (pd_ix (pd_lst (pad_cons (pdv 8) (pad_cons pd_int pad_nil))) (pd_callTy cd_int rfl B.int bt_int (pad_cons (pd_cmp (od_eq hu) (pd_def D__law_off hr (pad_cons (pdv 0) (pad_cons pd_int pad_nil))) pd_int) pad_nil))) (pdv 6))) (pad_cons (pd_tup (pad_cons (pdv 6) pad_nil)) (pad_cons (pd_def D__law_some hr (pad_cons (pdv 0) (pad_cons (pdv 8) (pad_cons (pd_def D__law_off hr (pad_cons (pdv 0) (pad_cons pd_int pad_nil))) pad_nil)))) pad_nil)))))))) pds_nil)
 (pds_cons (pd_set 9 (pd_def D__law_some hr (pad_cons (pdv 0) (pad_cons (pdv 1) (pad_cons pd_int pad_nil)))) sc__law_parts.nd)
 (pds_cons (pd_set 10 (pd_def D__law_some hr (pad_cons (pdv 0) (pad_cons (pdv 1) (pad_cons (pd_ix (pd_lst (pad_cons pd_int (pad_cons pd_int (pad_cons pd_int (pad_cons (pdv 1) pad_nil))))) (pd_def D__law_off hr (pad_cons (pdv 0) (pad_cons pd_int pad_nil)))) pad_nil)))) sc__law_parts.nd)
 (pds_one (pd_ret (pd_tup (pad_cons (pdv 10) (pad_cons (pdv 9) (pad_cons (pd_callTy cd_tuple rfl B.tuple bt_tuple (pad_cons (pd_lc [("_law_mark", 6)] rfl sc__law_parts.nd (pid_seq (pd_def D__law_some hr (pad_cons (pdv 0) (pad_cons (pdv 1) (pad_cons pd_int pad_nil))))) (blkOk_by (N := N__law_parts) (sc := defScope s__law_parts) (by decide +kernel)) (fun _ _ _ _ _ => pgc_name 6 sc__law_parts.nd) (fun _ _ _ _ _ => pbs_one (pb_cmp od_notIn (pdv 6) (pdv 9))) (fun _ _ _ _ _ => (pdv 6))) pad_nil)) pad_nil))))))))))), fun Γ Q E' hl hsp => ?_⟩
  obtain ⟨p, xs, m, wy, k, rfl, dx, ⟨m0, m1⟩, ⟨k0, k1⟩, q⟩ := hsp
  walk_at "go"
  rw [eqv_int]
  refine ⟨fun h => ?_, fun h => ?_⟩
  · walk_at "go"
    refine ⟨p, xs, m, rfl, dx, ⟨by omega, by omega⟩, fun r1 xs d1 r10 r11 => ?_⟩
    walk_at "go"
    refine ⟨p, xs, m, rfl, d1, ⟨by omega, by omega⟩, fun r2 xs d2 r20 r21 => ?_⟩
    walk_at "go"
    rw [eqv_int]
    have a1 : areMarks [r1] m = true := marks1 r10 r11
    have a2 : areMarks [r2] m = true := marks1 r20 r21
    refine ⟨fun h2 => ?_, fun h2 => ?_⟩
    · have h2 : r1 ≠ r2 := by simpa using h2
      walk_at "go"
      exact back_ow (q _ [r1] [r2] [r1] d2 a1 a2 a1 fun x hx hy => h2 ((List.mem_singleton.mp hy).symm.trans (List.mem_singleton.mp hx)))
    · walk_at "go"
      exact back_ow (q _ [r1] [r2] [] d2 a1 a2 rfl fun x hx hy => by cases hy)
  walk_at "go"
  rw [eqv_int]
  have km0 : 0 ≤ k % m := Int.emod_nonneg _ (by omega)
  have km1 : k % m < m := Int.emod_lt_of_pos _ (by omega)
  have lo : ∀ ys : List Int, ys.Sublist (rgI 0 (k % m)) → areMarks ys m = true ∧ k % m ∉ ys := fun ys hs => by
    refine ⟨areMarks_iff.mpr ⟨(rgI_up _ _).sublist hs, fun x hx => ?_⟩, fun hx => ?_⟩
    · have := rgI_mem.mp (hs.subset hx); omega
    · have := rgI_mem.mp (hs.subset hx); omega
  refine ⟨fun h3 => ?_, fun h3 => ?_⟩
  · walk_at "go"
    refine ⟨RgOk.of_le (by decide) (by omega) (by decide) km0, ?_⟩
    walk_at "w"
    rw [rgD_ints]
    intro mc
    refine LcR.sub mc (fun Γ => ∃ xs c, Γ = [dc p xs, .fz (.int m), .fz (.int wy), .fz (.int k), .no, .no, .fz (.int (k % m)), .no, .no, .no, .no, c] ∧ Dice xs) ⟨_, _, rfl, dx⟩ (fun _ _ => trivial) (fun x hx Γ j => ?_) (fun a ys Γ hs j => ?_)
    · obtain ⟨xs, c, rfl, dx⟩ := j
      walk_at "go"
      refine ⟨p, xs, 2, rfl, dx, ⟨by decide, by decide⟩, fun r1 xs d1 r10 r11 => ?_⟩
      walk_at "go"
      refine ⟨fun _ => ?_, fun _ => ⟨_, _, rfl, d1⟩⟩
      walk_at "go"
      exact ⟨_, _, rfl, d1⟩
    · obtain ⟨xs, c, rfl, dx⟩ := j
      walk_at "go"
      refine ⟨RgOk.of_le (by decide) (by omega) (by decide) km0, ?_⟩
      walk_at "w"
      rw [rgD_ints]
      intro mc
      refine LcR.sub mc (fun Γ => ∃ xs c, Γ = [dc p xs, .fz (.int m), .fz (.int wy), .fz (.int k), .no, .no, .fz (.int (k % m)), .fz (lI ys), .no, .no, .no, c] ∧ Dice xs) ⟨_, _, rfl, dx⟩ (fun _ _ => trivial) (fun x hx Γ j => ?_) (fun a ys2 Γ hs2 j => ?_)
      · obtain ⟨xs, c, rfl, dx⟩ := j
        walk_at "go"
        refine ⟨p, xs, 2, rfl, dx, ⟨by decide, by decide⟩, fun r1 xs d1 r10 r11 => ?_⟩
        walk_at "go"
        refine ⟨fun _ => ?_, fun _ => ⟨_, _, rfl, d1⟩⟩
        walk_at "go"
        exact ⟨_, _, rfl, d1⟩
      · obtain ⟨xs, c, rfl, dx⟩ := j
        walk_at "go"
        exact back_ow (q _ ys2 [k % m] ys dx (lo _ hs2).1 (marks1 km0 km1) (lo _ hs).1 fun x hx hy => (lo _ hs).2 (by rw [← List.mem_singleton.mp hx]; exact hy))
  walk_at "go"
  rw [eqv_int]
  refine ⟨fun h4 => ?_, fun h4 => ?_⟩
  · walk_at "go"
    intro p2
    walk_at "go"
    refine ⟨p, xs, 4, rfl, dx, ⟨by decide, by decide⟩, fun r1 xs d1 r10 r11 => ?_⟩
    walk_at "go"
    have lw0 : 0 ≤ (if k % m - 1 > 0 then k % m - 1 else 0) := by split <;> omega
    have lw1 : (if k % m - 1 > 0 then k % m - 1 else 0) ≤ k % m := by split <;> omega
    generalize hlw : (if k % m - 1 > 0 then k % m - 1 else 0) = lw at *
    rw [eqv_int]
    have sub4 : ∀ b : Int, 0 ≤ b → areMarks (rgI b (k % m)) m = true := fun b hb => areMarks_iff.mpr ⟨rgI_up _ _, fun x hx => by have := rgI_mem.mp hx; omega⟩
    have low4 : ∀ ys : List Int, areMarks ys lw = true → areMarks ys m = true ∧ k % m ∉ ys := fun ys h => by
      obtain ⟨h1, h2⟩ := areMarks_iff.mp h
      exact ⟨areMarks_iff.mpr ⟨h1, fun x hx => by have := h2 x hx; omega⟩, fun hx => by have := h2 _ hx; omega⟩
    cases hb : decide (r1 = 0)
    · walk_at "go"
      refine ⟨RgOk.of_le lw0 (by omega) (by omega) km0, ?_⟩
      walk_at "w"
      rw [rgD_ints]
      walk_at "go"
      refine ⟨p, xs, 2, rfl, d1, ⟨by decide, by decide⟩, fun r2 xs d2 r20 r21 => ?_⟩
      walk_at "go"
      refine ⟨p, xs, lw, r2, rfl, d2, ⟨lw0, by omega⟩, ⟨r20, by omega⟩, fun xs ys d3 ms => ?_⟩
      walk_at "go"
      exact back_ow (q _ _ [k % m] ys d3 (sub4 _ lw0) (marks1 km0 km1) (low4 _ ms).1 fun x hx hy => (low4 _ ms).2 (by rw [← List.mem_singleton.mp hx]; exact hy))
    · walk_at "go"
      refine ⟨RgOk.of_le (by decide) (by omega) (by decide) km0, ?_⟩
      walk_at "w"
      rw [rgD_ints]
      walk_at "go"
      refine ⟨p, xs, 2, rfl, d1, ⟨by decide, by decide⟩, fun r2 xs d2 r20 r21 => ?_⟩
      walk_at "go"
      refine ⟨p, xs, lw, r2, rfl, d2, ⟨lw0, by omega⟩, ⟨r20, by omega⟩, fun xs ys d3 ms => ?_⟩
      walk_at "go"
      exact back_ow (q _ _ [k % m] ys d3 (sub4 _ (Int.le_refl 0)) (marks1 km0 km1) (low4 _ ms).1 fun x hx hy => (low4 _ ms).2 (by rw [← List.mem_singleton.mp hx]; exact hy))
  walk_at "go"
  refine ⟨p, xs, m, 2, rfl, dx, ⟨by omega, by omega⟩, ⟨by decide, by decide⟩, fun xs ss d1 ms => ?_⟩
  walk_at "go"
  intro p2
  walk_at "go"
  refine ⟨p, xs, 4, rfl, d1, ⟨by decide, by decide⟩, fun r2 xs d2 r20 r21 => ?_⟩
  walk_at "go"
  have out : ∀ ks : List Int, areMarks ks m = true → areMarks (ks.filter fun x => !decide (x ∈ ss)) m = true ∧ ∀ x ∈ ss, x ∉ (ks.filter fun x => !decide (x ∈ ss)) := fun ks h => by
    obtain ⟨h1, h2⟩ := areMarks_iff.mp h
    exact ⟨areMarks_iff.mpr ⟨h1.filter _, fun x hx => h2 x (List.mem_filter.mp hx).1⟩, fun x hx hy => by have := (List.mem_filter.mp hy).2; simp [hx] at this⟩
  rcases lt4 r20 r21 with rfl | rfl | rfl | rfl
  all_goals
    walk_at "go"
    refine ⟨p, xs, m, _, rfl, d2, ⟨by omega, by omega⟩, ⟨by omega, by omega⟩, fun xs ns d3 mn => ?_⟩
    walk_at "go"
    refine ⟨p, xs, m, 2, rfl, d3, ⟨by omega, by omega⟩, ⟨by decide, by decide⟩, fun xs ks d4 mk => ?_⟩
    walk_at "go"
    intro mc
    refine LcR.ints mc (fun x => !decide (x ∈ ss)) .int trivial (fun x hx => ?_) (fun b => ?_)
    · walk_at "go"
      rw [isIn_ints]
      walk_at "lc"
    · walk_at "go"
      exact back_ow (q _ _ _ _ d4 mn ms (out _ mk).1 (out _ mk).2)

end
end K
/-! M3: yards put together. -/
namespace K
open PySem DL L2
structure Good1 (n : Int) (d : Deed) : Prop where
  nm : isName d.name = true
  c0 : 0 ≤ d.cost
  c1 : d.cost ≤ 99
  nd : areMarks d.needs n = true
  st : areMarks d.sets n = true
  sk : areMarks d.strikes n = true
  apart : ∀ m ∈ d.sets, m ∉ d.strikes
theorem nodup_take {α : Type} {xs : List α} (h : xs.Nodup) {i : Nat} {z : α} (e : xs[i]? = some z) : z ∉ xs.take i := by
  intro hz
  obtain ⟨j, hj, ez⟩ := List.mem_iff_getElem.mp hz
  have hj2 : j < i := by rw [List.length_take] at hj; omega
  obtain ⟨hi, e⟩ := List.getElem?_eq_some_iff.mp e
  rw [List.getElem_take] at ez
  have := List.pairwise_iff_getElem.mp h j i (by omega) hi hj2
  exact this (ez.trans e.symm)
theorem goodY_of {marks : List Str} {deeds : List Deed} {start wish : List Int} (m1 : 1 ≤ marks.length) (m2 : marks.length ≤ 10) (mn : marks.Nodup) (mi : ∀ z ∈ marks, isName z = true) (d2 : deeds.length ≤ 16)
    (dn : (deeds.map Deed.name).Nodup) (dg : ∀ d ∈ deeds, Good1 (marks.length : Nat) d) (b : areMarks start (marks.length : Nat) = true) (w : areMarks wish (marks.length : Nat) = true) : GoodY ⟨marks, deeds, start, wish⟩ := by
  refine ⟨m1, m2, fun i z e => ⟨mi z (List.mem_of_getElem? e), nodup_take mn e⟩, d2, fun i d e => ?_, b, w⟩
  have g := dg d (List.mem_of_getElem? e)
  refine ⟨g.nm, ?_, g.c0, g.c1, g.nd, g.st, g.sk, g.apart⟩
  intro hz
  rw [List.map_take] at hz
  exact nodup_take dn (i := i) (by rw [List.getElem?_map, e]; rfl) hz
theorem dD_app (ds : List Deed) (d : Deed) : ds.map dD ++ [dD d] = (ds ++ [d]).map dD := by simp
theorem map_gets {ns : List Str} {i : Nat} (h : i < ns.length) : (ns.map PyData.str)[i]? = some (.str ns[i]) := by rw [List.getElem?_map, List.getElem?_eq_getElem h]; rfl
theorem atD_nat {α : Type} {ds : List α} {i : Nat} : atD ds (i : Int) = ds[i]? := rfl
end K
namespace K
open PySem PySem.Spec PyProof.Rows L2 DL
local macro_rules | `(tactic| walk_at "nod") => `(tactic| first | rfl | exact noD_tI _ | exact noD_ints _ | exact noD_tIs _ | (simp [noD, noDs, noDs_map, noDs_app, noDs_all]; done))
local macro_rules | `(tactic| walk_at "w") => `(tactic| conv => whnf)
local macro_rules | `(tactic| walk_at "side") => `(tactic| first | rfl | exact True.intro | assumption | exact shal_nil (by walk_at "nod") | exact shal_int (by walk_at "nod") | exact shal_bool (by walk_at "nod") | exact shal_str (by walk_at "nod") | exact shal_nilT (by walk_at "nod") | exact flat_ints _ | exact flat_strs _ | omega | exact le_line (Nat.le_of_ble_eq_true rfl))
local macro_rules | `(tactic| walk_at "lc") => `(tactic| first | exact ⟨rfl, fun _ => ⟨rfl, rfl⟩, fun _ => rfl⟩ | exact ⟨rfl, fun _ => ⟨rfl, rfl⟩, fun z => (by cases z)⟩ | exact ⟨fun _ => ⟨rfl, rfl⟩, fun _ => rfl⟩ | exact ⟨fun _ => ⟨rfl, rfl⟩, fun z => (by cases z)⟩)
local macro_rules | `(tactic| walk_at "lch") => `(tactic| first | exact ⟨by simp [*], fun _ => ⟨rfl, rfl⟩, fun _ => rfl⟩ | exact ⟨by simp [*], fun z => (by cases z), fun _ => rfl⟩ | exact ⟨by simp [*], fun _ => ⟨rfl, rfl⟩, fun z => (by cases z)⟩)
local macro_rules | `(tactic| walk_at "go") => `(tactic| (walk_at "w"; repeat ((first | (refine And.intro ?left ?_; (case left => walk_at "side")) | (refine Br.t ?_) | (refine Br.f ?_)); walk_at "w")))
section
variable {P : Program} {w : World} {K : PySem.W.Frag} {mg : Str → Option Value} {base : Heap}
abbrev s__law_yard : Stmt := topS 30
abbrev N__law_yard : List Str := ["_law_d", "_law_upto", "_law_acts", "_law_many", "_law_way", "_law_names_here", "_law_found", "_law_k", "_law_needs", "_law_sets", "_law_strikes", "_law_begin", "_law_wish"]
theorem sc__law_yard : FnScope N__law_yard ["_law_d", "_law_upto", "_law_acts"] (defScope s__law_yard) := ⟨rfl, rfl, rfl, by decide +kernel, rfl, by decide +kernel, by decide +kernel⟩
def sp_yard : SpD := fun Γ Q _ => ∃ (p : Addr) (xs : List Int) (u a : Int), Γ = [dc p xs, .fz (.int u), .fz (.int a)] ∧ Dice xs ∧ (1 ≤ u ∧ u ≤ 10) ∧ (0 ≤ a ∧ a ≤ 16) ∧ ∀ xs' y, Dice xs' → GoodY y → (y.marks.length : Int) ≤ u → (y.deeds.length : Int) ≤ a → Q (.fz (yD y)) [dc p xs', .fz (.int u), .fz (.int a)]
theorem ms_yard : MonoSp sp_yard := fun Γ Q Q' E E' h _ ⟨p, xs, u, a, e, g, g2, g3, q⟩ => ⟨p, xs, u, a, e, g, g2, g3, fun xs' y d h1 h2 h3 => h _ _ (q xs' y d h1 h2 h3)⟩
theorem ok_yard {f : Addr} {fd : FuncData} (F : Fun K "_law_yard" "_law_yard" s__law_yard f fd) (B : Bl mg) (D__law_off : DefOk P w K mg base 1 "_law_off" ["_law_d", "_law_upto"] 2 sp_off)
    (D__law_mixed : DefOk P w K mg base 2 "_law_mixed" ["_law_d", "_law_row"] 2 sp_mixed) (D__law_names : DefOk P w K mg base 3 "_law_names" ["_law_d", "_law_many"] 2 sp_names)
    (D__law_some : DefOk P w K mg base 2 "_law_some" ["_law_d", "_law_many", "_law_few"] 3 sp_some) (D__law_price : DefOk P w K mg base 2 "_law_price" ["_law_d"] 1 sp_price)
    (D__law_parts : DefOk P w K mg base 3 "_law_parts" ["_law_d", "_law_many", "_law_way", "_law_k"] 4 sp_parts) : FnOk P w K mg base CX0 4 f fd ["_law_d", "_law_upto", "_law_acts"] (liftSp K 3 sp_yard) := by
  refine fnd F sc__law_yard 3 rfl ms_yard (fun X cdv A outer s H E hX hr => ?_)
  subst hX
  have hu := hu64 hr
  refine ⟨_, (pds_cons (pd_set 3 (pd_op od_add pd_int (pd_def D__law_off hr (pad_cons (pdv 0) (pad_cons (pdv 1) pad_nil)))) sc__law_yard.nd)
 (pds_cons (pd_set 4 (pd_def D__law_off hr (pad_cons (pdv 0) (pad_cons pd_int pad_nil))) sc__law_yard.nd)
 (pds_cons (pd_set 5 (pd_def D__law_names hr (pad_cons (pdv 0) (pad_cons (pdv 2) pad_nil))) sc__law_yard.nd)
 (pds_cons (pd_set 6 (pd_lst pad_nil) sc__law_yard.nd)
 (pds_cons (pd_if (pb_cmp (od_eq hu) (pdv 4) pd_int) (pds_one (pd_set 3 (pdv 1) sc__law_yard.nd)) pds_nil)
 (pds_cons (pd_for PassesOwn.never rfl (pid_rg1 rfl B.range (pd_ifExp (pb_cmp od_lt (pdv 4) pd_int) (pd_def D__law_off hr (pad_cons (pdv 0) (pad_cons (pd_op od_add (pdv 2) pd_int) pad_nil))) (pd_op od_sub (pdv 2) (pd_def D__law_off hr (pad_cons (pdv 0) (pad_cons pd_int pad_nil)))))) (pgd_name 7 sc__law_yard.nd) (pds_cons (pd_asg (pd_def D__law_parts hr (pad_cons (pdv 0) (pad_cons (pdv 3) (pad_cons (pdv 4) (pad_cons (pdv 7) pad_nil))))) (pgd_tup rfl (pgsd_cons (pgd_name 8 sc__law_yard.nd) (pgsd_cons (pgd_name 9 sc__law_yard.nd) (pgsd_cons (pgd_name 10 sc__law_yard.nd) pgsd_nil)))))
 (pds_one (pd_expr (pd_mt 6 mt_app PySem.F.plainAttrs_list PySem.F.slot_list_append PySem.F.type_list_append (pv 6) (pad_cons (pd_tup (pad_cons (pd_ix (pdv 5) (pdv 7)) (pad_cons (pdv 8) (pad_cons (pdv 9) (pad_cons (pdv 10) (pad_cons (pd_callB (cd_max rfl) rfl B.max bt_max (pad_cons (pd_def D__law_price hr (pad_cons (pdv 0) pad_nil)) (pad_cons (pd_callTy cd_int rfl B.int bt_int (pad_cons (pd_cmp (od_eq hu) (pdv 4) pd_int) pad_nil)) pad_nil))) pad_nil)))))) pad_nil))))))
 (pds_cons (pd_set 11 (pd_def D__law_some hr (pad_cons (pdv 0) (pad_cons (pdv 3) (pad_cons (pd_ix (pd_lst (pad_cons pd_int (pad_cons pd_int (pad_cons (pdv 3) pad_nil)))) (pd_def D__law_off hr (pad_cons (pdv 0) (pad_cons pd_int pad_nil)))) pad_nil)))) sc__law_yard.nd)
 (pds_cons (pd_set 12 (pd_def D__law_some hr (pad_cons (pdv 0) (pad_cons (pdv 3) (pad_cons (pd_ix (pd_lst (pad_cons pd_int (pad_cons pd_int (pad_cons pd_int (pad_cons (pdv 3) pad_nil))))) (pd_def D__law_off hr (pad_cons (pdv 0) (pad_cons pd_int pad_nil)))) pad_nil)))) sc__law_yard.nd)
 (pds_cons (pd_if (PBW.pb (pbw_and (pb_cmp od_gt (pdv 4) pd_int) (pbw_and1 (pb_cmp (od_eq hu) (pd_def D__law_off hr (pad_cons (pdv 0) (pad_cons pd_int pad_nil))) pd_int)))) (pds_one (pd_par 11 12 rfl sc__law_yard.nd (pad_cons (pd_tup pad_nil) (pad_cons (pd_tup (pad_cons (pd_op od_sub (pdv 3) pd_int) pad_nil)) pad_nil)))) pds_nil)
 (pds_one (pd_ret (pd_tup (pad_cons (pd_callTy cd_tuple rfl B.tuple bt_tuple (pad_cons (pd_def D__law_names hr (pad_cons (pdv 0) (pad_cons (pdv 3) pad_nil))) pad_nil)) (pad_cons (pd_callTy cd_tuple rfl B.tuple bt_tuple (pad_cons (pd_def D__law_mixed hr (pad_cons (pdv 0) (pad_cons (pd_fz (pdv 6)) pad_nil))) pad_nil)) (pad_cons (pdv 11) (pad_cons (pdv 12) pad_nil)))))))))))))))), fun Γ Q E' hl hsp => ?_⟩
  obtain ⟨p, xs, u, a, rfl, dx, ⟨u0, u1⟩, ⟨a0, a1⟩, q⟩ := hsp
  walk_at "go"
  refine ⟨p, xs, u, rfl, dx, ⟨by omega, by omega⟩, fun r1 xs d1 r10 r11 => ?_⟩
  walk_at "go"
  refine ⟨p, xs, 5, rfl, d1, ⟨by decide, by decide⟩, fun wy xs d2 r20 r21 => ?_⟩
  walk_at "go"
  refine ⟨p, xs, a, rfl, d2, ⟨a0, a1⟩, fun xs ns d3 n1 n2 n3 => ?_⟩
  walk_at "go"
  intro p2
  walk_at "go"
  rw [eqv_int]
  refine ⟨fun hw => ?_, fun hw => ?_⟩
  · have hw : wy = 4 := of_decide_eq_true hw
    walk_at "go"
    refine ⟨fun hw2 => absurd (of_decide_eq_true hw2) (by omega), fun _ => ?_⟩
    walk_at "go"
    refine ⟨p, xs, 3, rfl, d3, ⟨by decide, by decide⟩, fun r3 xs d4 r30 r31 => ?_⟩
    walk_at "go"
    refine ⟨⟨by omega, by omega, by omega, by omega, by omega⟩, ?_⟩
    walk_at "w"
    intro mf
    refine ForR.rg0 (fun (i : Nat) Γ => ∃ (xs : List Int) (deeds : List Deed) (m : Int) (c7 c8 c9 c10 : SV), Γ = [dc p xs, .fz (.int u), .fz (.int a), .fz (.int m), .fz (.int wy), .fz (.list (ns.map .str)), .ow p2 (.lst (deeds.map dD)), c7, c8, c9, c10, .no, .no] ∧ Dice xs ∧ (1 ≤ m ∧ m ≤ u) ∧ deeds.map Deed.name = ns.take i ∧ (∀ d ∈ deeds, Good1 m d))
      ⟨_, [], _, _, _, _, _, rfl, d4, ⟨by omega, by omega⟩, rfl, fun d hd => by cases hd⟩ (fun i Γ hi ih => ?_) (fun Γ ih => ?_)
    · obtain ⟨xs, deeds, m, c7, c8, c9, c10, rfl, dx, ⟨m0, m1⟩, nm, gd⟩ := ih
      have hi2 : i < ns.length := by omega
      have dl : deeds.length = i := by rw [← List.length_map (f := Deed.name), nm, List.length_take]; omega
      walk_at "go"
      refine ⟨p, xs, m, wy, i, rfl, dx, ⟨m0, by omega⟩, ⟨by omega, by omega⟩, fun xs nd ss ks d5 h1 h2 h3 h4 => ?_⟩
      walk_at "go"
      rw [atD_nat, map_gets hi2]
      walk_at "go"
      refine ⟨p, xs, rfl, d5, fun xs c d6 hc => ?_⟩
      obtain ⟨hc0, hc1⟩ := hc
      walk_at "go"
      have e0 : ∀ b : Bool, 0 ≤ (if (if b = true then (1 : Int) else 0) > c then (if b = true then (1 : Int) else 0) else c) ∧ (if (if b = true then (1 : Int) else 0) > c then (if b = true then (1 : Int) else 0) else c) ≤ 99 := fun b => by
        cases b <;> simp <;> split <;> omega
      refine ⟨by rw [List.length_map]; exact le_line (by omega), ?_⟩
      walk_at "w"
      refine ⟨xs, deeds ++ [⟨ns[i], nd, ss, ks, if (if PyData.eqv (.int wy) (.int 4) = true then (1 : Int) else 0) > c then (if PyData.eqv (.int wy) (.int 4) = true then (1 : Int) else 0) else c⟩], m, .fz (.int (i : Nat)), .fz (tI nd), .fz (tI ss), .fz (tI ks), ?_, d6, ⟨m0, m1⟩, ?_, fun d hd => ?_⟩
      · rw [← dD_app]; rfl
      · rw [List.map_append, nm, List.take_succ, List.getElem?_eq_getElem hi2]; rfl
      · rcases List.mem_append.mp hd with hd | hd
        · exact gd d hd
        · rw [List.mem_singleton.mp hd]
          exact ⟨n3 _ (List.getElem_mem _), (e0 _).1, (e0 _).2, h1, h2, h3, h4⟩
    · obtain ⟨xs, deeds, m, c7, c8, c9, c10, rfl, dx, ⟨m0, m1⟩, nm, gd⟩ := ih
      walk_at "go"
      intro p3
      walk_at "go"
      refine ⟨p, xs, 3, rfl, dx, ⟨by decide, by decide⟩, fun r4 xs d5 r40 r41 => ?_⟩
      walk_at "go"
      obtain ⟨z4, e4, z40, z41⟩ : ∃ z, atD [PyData.int 2, PyData.int 1, PyData.int m] r4 = some (.int z) ∧ 0 ≤ z ∧ z ≤ 16 := by
        rcases lt3 r40 r41 with rfl | rfl | rfl <;> exact ⟨_, rfl, by omega, by omega⟩
      rw [e4]
      walk_at "go"
      refine ⟨p, xs, m, z4, rfl, d5, ⟨by omega, by omega⟩, ⟨by omega, by omega⟩, fun xs bg d6 mb => ?_⟩
      walk_at "go"
      intro p4
      walk_at "go"
      refine ⟨p, xs, 4, rfl, d6, ⟨by decide, by decide⟩, fun r5 xs d7 r50 r51 => ?_⟩
      walk_at "go"
      obtain ⟨z5, e5, z50, z51⟩ : ∃ z, atD [PyData.int 1, PyData.int 2, PyData.int 3, PyData.int m] r5 = some (.int z) ∧ 0 ≤ z ∧ z ≤ 16 := by
        rcases lt4 r50 r51 with rfl | rfl | rfl | rfl <;> exact ⟨_, rfl, by omega, by omega⟩
      rw [e5]
      walk_at "go"
      refine ⟨p, xs, m, z5, rfl, d7, ⟨by omega, by omega⟩, ⟨by omega, by omega⟩, fun xs ws d8 mw => ?_⟩
      walk_at "go"
      have dl : deeds.length ≤ ns.length := by rw [← List.length_map (f := Deed.name), nm]; exact List.length_take_le' ..
      refine ⟨fun hw3 => ?_, fun hw3 => ?_⟩
      · walk_at "go"
        refine ⟨p, xs, 2, rfl, d8, ⟨by decide, by decide⟩, fun r6 xs d9 r60 r61 => ?_⟩
        walk_at "go"
        refine ⟨fun hw4 => ?_, fun hw4 => ?_⟩
        · walk_at "go"
          refine ⟨p, xs, m, rfl, d9, ⟨by omega, by omega⟩, fun xs mn g1 l1 l2 l3 => ?_⟩
          walk_at "go"
          refine ⟨p, xs, deeds.map dD, rfl, g1, by rw [List.length_map]; omega, noDs_dD _, fun xs es g2 pm => ?_⟩
          obtain ⟨ds2, rfl, pd⟩ := perm_map pm
          walk_at "go"
          subst l1
          have pl := pd.length_eq
          exact back_ow (q _ ⟨mn, ds2, [], [((mn.length : Nat) : Int) - 1]⟩ g2 (goodY_of (by omega) (by omega) l2 l3 (by omega) ((pd.map Deed.name).nodup_iff.mpr (by rw [nm]; exact n2.sublist (List.take_sublist _ _))) (fun d hd => gd d (pd.mem_iff.mp hd)) rfl (marks1 (by omega) (by omega))) (by show (mn.length : Int) ≤ u; omega) (by show (ds2.length : Int) ≤ a; omega))
        · walk_at "go"
          refine ⟨p, xs, m, rfl, d9, ⟨by omega, by omega⟩, fun xs mn g1 l1 l2 l3 => ?_⟩
          walk_at "go"
          refine ⟨p, xs, deeds.map dD, rfl, g1, by rw [List.length_map]; omega, noDs_dD _, fun xs es g2 pm => ?_⟩
          obtain ⟨ds2, rfl, pd⟩ := perm_map pm
          walk_at "go"
          subst l1
          have pl := pd.length_eq
          exact back_ow (q _ ⟨mn, ds2, bg, ws⟩ g2 (goodY_of (by omega) (by omega) l2 l3 (by omega) ((pd.map Deed.name).nodup_iff.mpr (by rw [nm]; exact n2.sublist (List.take_sublist _ _))) (fun d hd => gd d (pd.mem_iff.mp hd)) mb mw) (by show (mn.length : Int) ≤ u; omega) (by show (ds2.length : Int) ≤ a; omega))
      · walk_at "go"
        refine ⟨p, xs, m, rfl, d8, ⟨by omega, by omega⟩, fun xs mn g1 l1 l2 l3 => ?_⟩
        walk_at "go"
        refine ⟨p, xs, deeds.map dD, rfl, g1, by rw [List.length_map]; omega, noDs_dD _, fun xs es g2 pm => ?_⟩
        obtain ⟨ds2, rfl, pd⟩ := perm_map pm
        walk_at "go"
        subst l1
        have pl := pd.length_eq
        exact back_ow (q _ ⟨mn, ds2, bg, ws⟩ g2 (goodY_of (by omega) (by omega) l2 l3 (by omega) ((pd.map Deed.name).nodup_iff.mpr (by rw [nm]; exact n2.sublist (List.take_sublist _ _))) (fun d hd => gd d (pd.mem_iff.mp hd)) mb mw) (by show (mn.length : Int) ≤ u; omega) (by show (ds2.length : Int) ≤ a; omega))
  · have hw : wy ≠ 4 := of_decide_eq_false hw
    walk_at "go"
    refine ⟨fun _ => ?_, fun hw2 => absurd (of_decide_eq_false hw2) (by omega)⟩
    walk_at "go"
    refine ⟨p, xs, a + 1, rfl, d3, ⟨by omega, by omega⟩, fun r3 xs d4 r30 r31 => ?_⟩
    walk_at "go"
    refine ⟨⟨by omega, by omega, by omega, by omega, by omega⟩, ?_⟩
    walk_at "w"
    intro mf
    refine ForR.rg0 (fun (i : Nat) Γ => ∃ (xs : List Int) (deeds : List Deed) (m : Int) (c7 c8 c9 c10 : SV), Γ = [dc p xs, .fz (.int u), .fz (.int a), .fz (.int m), .fz (.int wy), .fz (.list (ns.map .str)), .ow p2 (.lst (deeds.map dD)), c7, c8, c9, c10, .no, .no] ∧ Dice xs ∧ (1 ≤ m ∧ m ≤ u) ∧ deeds.map Deed.name = ns.take i ∧ (∀ d ∈ deeds, Good1 m d))
      ⟨_, [], _, _, _, _, _, rfl, d4, ⟨by omega, by omega⟩, rfl, fun d hd => by cases hd⟩ (fun i Γ hi ih => ?_) (fun Γ ih => ?_)
    · obtain ⟨xs, deeds, m, c7, c8, c9, c10, rfl, dx, ⟨m0, m1⟩, nm, gd⟩ := ih
      have hi2 : i < ns.length := by omega
      have dl : deeds.length = i := by rw [← List.length_map (f := Deed.name), nm, List.length_take]; omega
      walk_at "go"
      refine ⟨p, xs, m, wy, i, rfl, dx, ⟨m0, by omega⟩, ⟨by omega, by omega⟩, fun xs nd ss ks d5 h1 h2 h3 h4 => ?_⟩
      walk_at "go"
      rw [atD_nat, map_gets hi2]
      walk_at "go"
      refine ⟨p, xs, rfl, d5, fun xs c d6 hc => ?_⟩
      obtain ⟨hc0, hc1⟩ := hc
      walk_at "go"
      have e0 : ∀ b : Bool, 0 ≤ (if (if b = true then (1 : Int) else 0) > c then (if b = true then (1 : Int) else 0) else c) ∧ (if (if b = true then (1 : Int) else 0) > c then (if b = true then (1 : Int) else 0) else c) ≤ 99 := fun b => by
        cases b <;> simp <;> split <;> omega
      refine ⟨by rw [List.length_map]; exact le_line (by omega), ?_⟩
      walk_at "w"
      refine ⟨xs, deeds ++ [⟨ns[i], nd, ss, ks, if (if PyData.eqv (.int wy) (.int 4) = true then (1 : Int) else 0) > c then (if PyData.eqv (.int wy) (.int 4) = true then (1 : Int) else 0) else c⟩], m, .fz (.int (i : Nat)), .fz (tI nd), .fz (tI ss), .fz (tI ks), ?_, d6, ⟨m0, m1⟩, ?_, fun d hd => ?_⟩
      · rw [← dD_app]; rfl
      · rw [List.map_append, nm, List.take_succ, List.getElem?_eq_getElem hi2]; rfl
      · rcases List.mem_append.mp hd with hd | hd
        · exact gd d hd
        · rw [List.mem_singleton.mp hd]
          exact ⟨n3 _ (List.getElem_mem _), (e0 _).1, (e0 _).2, h1, h2, h3, h4⟩
    · obtain ⟨xs, deeds, m, c7, c8, c9, c10, rfl, dx, ⟨m0, m1⟩, nm, gd⟩ := ih
      walk_at "go"
      intro p3
      walk_at "go"
      refine ⟨p, xs, 3, rfl, dx, ⟨by decide, by decide⟩, fun r4 xs d5 r40 r41 => ?_⟩
      walk_at "go"
      obtain ⟨z4, e4, z40, z41⟩ : ∃ z, atD [PyData.int 2, PyData.int 1, PyData.int m] r4 = some (.int z) ∧ 0 ≤ z ∧ z ≤ 16 := by
        rcases lt3 r40 r41 with rfl | rfl | rfl <;> exact ⟨_, rfl, by omega, by omega⟩
      rw [e4]
      walk_at "go"
      refine ⟨p, xs, m, z4, rfl, d5, ⟨by omega, by omega⟩, ⟨by omega, by omega⟩, fun xs bg d6 mb => ?_⟩
      walk_at "go"
      intro p4
      walk_at "go"
      refine ⟨p, xs, 4, rfl, d6, ⟨by decide, by decide⟩, fun r5 xs d7 r50 r51 => ?_⟩
      walk_at "go"
      obtain ⟨z5, e5, z50, z51⟩ : ∃ z, atD [PyData.int 1, PyData.int 2, PyData.int 3, PyData.int m] r5 = some (.int z) ∧ 0 ≤ z ∧ z ≤ 16 := by
        rcases lt4 r50 r51 with rfl | rfl | rfl | rfl <;> exact ⟨_, rfl, by omega, by omega⟩
      rw [e5]
      walk_at "go"
      refine ⟨p, xs, m, z5, rfl, d7, ⟨by omega, by omega⟩, ⟨by omega, by omega⟩, fun xs ws d8 mw => ?_⟩
      walk_at "go"
      have dl : deeds.length ≤ ns.length := by rw [← List.length_map (f := Deed.name), nm]; exact List.length_take_le' ..
      refine ⟨fun hw3 => ?_, fun hw3 => ?_⟩
      · walk_at "go"
        refine ⟨p, xs, 2, rfl, d8, ⟨by decide, by decide⟩, fun r6 xs d9 r60 r61 => ?_⟩
        walk_at "go"
        refine ⟨fun hw4 => ?_, fun hw4 => ?_⟩
        · walk_at "go"
          refine ⟨p, xs, m, rfl, d9, ⟨by omega, by omega⟩, fun xs mn g1 l1 l2 l3 => ?_⟩
          walk_at "go"
          refine ⟨p, xs, deeds.map dD, rfl, g1, by rw [List.length_map]; omega, noDs_dD _, fun xs es g2 pm => ?_⟩
          obtain ⟨ds2, rfl, pd⟩ := perm_map pm
          walk_at "go"
          subst l1
          have pl := pd.length_eq
          exact back_ow (q _ ⟨mn, ds2, [], [((mn.length : Nat) : Int) - 1]⟩ g2 (goodY_of (by omega) (by omega) l2 l3 (by omega) ((pd.map Deed.name).nodup_iff.mpr (by rw [nm]; exact n2.sublist (List.take_sublist _ _))) (fun d hd => gd d (pd.mem_iff.mp hd)) rfl (marks1 (by omega) (by omega))) (by show (mn.length : Int) ≤ u; omega) (by show (ds2.length : Int) ≤ a; omega))
        · walk_at "go"
          refine ⟨p, xs, m, rfl, d9, ⟨by omega, by omega⟩, fun xs mn g1 l1 l2 l3 => ?_⟩
          walk_at "go"
          refine ⟨p, xs, deeds.map dD, rfl, g1, by rw [List.length_map]; omega, noDs_dD _, fun xs es g2 pm => ?_⟩
          obtain ⟨ds2, rfl, pd⟩ := perm_map pm
          walk_at "go"
          subst l1
          have pl := pd.length_eq
          exact back_ow (q _ ⟨mn, ds2, bg, ws⟩ g2 (goodY_of (by omega) (by omega) l2 l3 (by omega) ((pd.map Deed.name).nodup_iff.mpr (by rw [nm]; exact n2.sublist (List.take_sublist _ _))) (fun d hd => gd d (pd.mem_iff.mp hd)) mb mw) (by show (mn.length : Int) ≤ u; omega) (by show (ds2.length : Int) ≤ a; omega))
      · walk_at "go"
        refine ⟨p, xs, m, rfl, d8, ⟨by omega, by omega⟩, fun xs mn g1 l1 l2 l3 => ?_⟩
        walk_at "go"
        refine ⟨p, xs, deeds.map dD, rfl, g1, by rw [List.length_map]; omega, noDs_dD _, fun xs es g2 pm => ?_⟩
        obtain ⟨ds2, rfl, pd⟩ := perm_map pm
        walk_at "go"
        subst l1
        have pl := pd.length_eq
        exact back_ow (q _ ⟨mn, ds2, bg, ws⟩ g2 (goodY_of (by omega) (by omega) l2 l3 (by omega) ((pd.map Deed.name).nodup_iff.mpr (by rw [nm]; exact n2.sublist (List.take_sublist _ _))) (fun d hd => gd d (pd.mem_iff.mp hd)) mb mw) (by show (mn.length : Int) ≤ u; omega) (by show (ds2.length : Int) ≤ a; omega))

end
end K
/-! M4: what comes about, by the law's own way: lists that do not rise. -/
namespace K
open PySem DL L2
theorem nodup_len {xs : List Int} {n : Nat} (h : xs.Nodup) (h2 : ∀ x ∈ xs, 0 ≤ x ∧ x < (n : Int)) : xs.length ≤ n := by
  let ys := xs.mergeSort (fun a b => decide (a ≤ b))
  have p : ys.Perm xs := List.mergeSort_perm _ _
  have s : ys.Pairwise (fun a b => decide (a ≤ b) = true) := List.pairwise_mergeSort (le := fun a b => decide (a ≤ b)) (fun a b c h1 h2 => by simp only [decide_eq_true_iff] at *; omega) (fun a b => by simp only [Bool.or_eq_true, decide_eq_true_iff]; omega) xs
  have s2 : ys.Pairwise (· < ·) := up_of (s.imp fun h => of_decide_eq_true h) (p.nodup_iff.mpr h)
  have := rise_len s2 (fun x hx => h2 x (p.mem_iff.mp hx)) (by omega)
  rw [← p.length_eq]
  omega
structure OkN (n : Nat) (b : List Int) (ds : List Deed) (lo : List Int) (R : List Int) : Prop where
  nd : R.Nodup
  rg : ∀ x ∈ R, 0 ≤ x ∧ x < (n : Int)
  lo' : ∀ x ∈ b, x ∈ R
  hi : ∀ x ∈ R, Comes b ds lo x
theorem OkN.len {n : Nat} {b : List Int} {ds : List Deed} {lo R : List Int} (h : OkN n b ds lo R) : R.length ≤ n := nodup_len h.nd h.rg
theorem OkN.step {n : Nat} {b : List Int} {ds : List Deed} {lo R : List Int} {k : Nat} {d : Deed} (h : OkN n b ds lo R) (e : ds[k]? = some d) (hk : ((k : Nat) : Int) ∉ lo) (hn : ∀ m, m ∈ d.needs → m ∈ R) (hs : areMarks d.sets (n : Int) = true) :
    OkN n b ds lo (R ++ d.sets.filter fun m => !decide (m ∈ R)) := by
  obtain ⟨s1, s2⟩ := areMarks_iff.mp hs
  have mf : ∀ x, x ∈ (d.sets.filter fun m => !decide (m ∈ R)) ↔ x ∈ d.sets ∧ x ∉ R := fun x => by rw [List.mem_filter]; simp
  refine ⟨List.nodup_append.mpr ⟨h.nd, (nodup_up s1).sublist List.filter_sublist, fun a ha b hb hab => ?_⟩, fun x hx => ?_, fun x hx => List.mem_append_left _ (h.lo' x hx), fun x hx => ?_⟩
  · subst hab
    exact ((mf _).mp hb).2 ha
  · rcases List.mem_append.mp hx with z | z
    · exact h.rg x z
    · exact s2 x ((mf _).mp z).1
  · rcases List.mem_append.mp hx with z | z
    · exact h.hi x z
    · exact .deed e hk (fun m hm => h.hi m (hn m hm)) ((mf _).mp z).1
/-- what the law's own _law_alike looks at: data of a depth, no dicts -/
inductive Al : Nat → D → Prop
  | non {n : Nat} : Al (n + 1) .none
  | bl {n : Nat} {b : Bool} : Al (n + 1) (.bool b)
  | int {n : Nat} {i : Int} : Al (n + 1) (.int i)
  | str {n : Nat} {z : Str} : Al (n + 1) (.str z)
  | tup {n : Nat} {ds : List D} : ds.length ≤ 1000 → (∀ d ∈ ds, Al n d) → Al (n + 1) (.tuple ds)
  | lst {n : Nat} {ds : List D} : ds.length ≤ 1000 → (∀ d ∈ ds, Al n d) → Al (n + 1) (.list ds)
theorem comes_mono {b : List Int} {ds : List Deed} {lo lo2 : List Int} (h : ∀ k : Int, k ∉ lo2 → k ∉ lo) {m : Int} (c : Comes b ds lo2 m) : Comes b ds lo m := by
  induction c with
  | start h1 => exact .start h1
  | deed e n _ hm ih => exact .deed e (h _ n) ih hm
theorem comes_none {b : List Int} {ds : List Deed} {lo : List Int} (h : ∀ k : Nat, k < ds.length → ((k : Nat) : Int) ∈ lo) {m : Int} : Comes b ds lo m ↔ m ∈ b := by
  constructor
  · intro c
    cases c with
    | start h1 => exact h1
    | deed e n _ _ => exact absurd (h _ (List.getElem?_eq_some_iff.mp e).1) n
  · exact .start
end K
namespace K
open PySem PySem.Spec PyProof.Rows L2 DL
local macro_rules | `(tactic| walk_at "nod") => `(tactic| first | rfl | exact noD_tI _ | exact noD_ints _ | exact noD_tIs _ | (simp [noD, noDs, noDs_map, noDs_app, noDs_all]; done))
local macro_rules | `(tactic| walk_at "w") => `(tactic| conv => whnf)
local macro_rules | `(tactic| walk_at "side") => `(tactic| first | rfl | exact True.intro | assumption | exact shal_nil (by walk_at "nod") | exact shal_int (by walk_at "nod") | exact shal_bool (by walk_at "nod") | exact shal_str (by walk_at "nod") | exact shal_nilT (by walk_at "nod") | exact flat_ints _ | exact flat_strs _ | omega | exact le_line (Nat.le_of_ble_eq_true rfl))
local macro_rules | `(tactic| walk_at "lc") => `(tactic| first | exact ⟨rfl, fun _ => ⟨rfl, rfl⟩, fun _ => rfl⟩ | exact ⟨rfl, fun _ => ⟨rfl, rfl⟩, fun z => (by cases z)⟩ | exact ⟨fun _ => ⟨rfl, rfl⟩, fun _ => rfl⟩ | exact ⟨fun _ => ⟨rfl, rfl⟩, fun z => (by cases z)⟩)
local macro_rules | `(tactic| walk_at "lch") => `(tactic| first | exact ⟨by simp [*], fun _ => ⟨rfl, rfl⟩, fun _ => rfl⟩ | exact ⟨by simp [*], fun z => (by cases z), fun _ => rfl⟩ | exact ⟨by simp [*], fun _ => ⟨rfl, rfl⟩, fun z => (by cases z)⟩)
local macro_rules | `(tactic| walk_at "go") => `(tactic| (walk_at "w"; repeat ((first | (refine And.intro ?left ?_; (case left => walk_at "side")) | (refine Br.t ?_) | (refine Br.f ?_)); walk_at "w")))
section
variable {P : Program} {w : World} {K : PySem.W.Frag} {mg : Str → Option Value} {base : Heap}
abbrev s__law_has : Stmt := topS 31
abbrev N__law_has : List Str := ["_law_state", "_law_some_here", "_law_mark"]
theorem sc__law_has : FnScope N__law_has ["_law_state", "_law_some_here"] (defScope s__law_has) := ⟨rfl, rfl, rfl, by decide +kernel, rfl, by decide +kernel, by decide +kernel⟩
def sp_lhas : SpD := fun Γ Q _ => ∃ (st : D) (R sm : List Int), Γ = [.fz st, .fz (tI sm)] ∧ (st = tI R ∨ st = lI R) ∧ Q (.fz (.bool (sm.all fun m => decide (m ∈ R)))) Γ
theorem ms_lhas : MonoSp sp_lhas := fun Γ Q Q' E E' h _ ⟨st, R, sm, e, g, q⟩ => ⟨st, R, sm, e, g, h _ _ q⟩
theorem ok_lhas {f : Addr} {fd : FuncData} (F : Fun K "_law_has" "_law_has" s__law_has f fd) (B : Bl mg) : FnOk P w K mg base CX0 1 f fd ["_law_state", "_law_some_here"] (liftSp K 2 sp_lhas) := by
  refine fnd F sc__law_has 2 rfl ms_lhas (fun X cdv A outer s H E hX hr => ?_)
  subst hX
  have hu := hu64 hr
  refine ⟨_, (pds_one (pd_ret (pd_cmp (od_eq hu) (pd_lc [("_law_mark", 2)] rfl sc__law_has.nd (pid_seq (pdv 1)) (blkOk_by (N := N__law_has) (sc := defScope s__law_has) (by decide +kernel)) (fun _ _ _ _ _ => pgc_name 2 sc__law_has.nd) (fun _ _ _ _ _ => pbs_one (pb_cmp od_notIn (pdv 2) (pdv 0))) (fun _ _ _ _ _ => (pdv 2))) (pd_lst pad_nil)))), fun Γ Q E' hl hsp => ?_⟩
  obtain ⟨st, R, sm, rfl, rfl | rfl, q⟩ := hsp
  all_goals
    walk_at "w"
    intro mc
    refine LcR.ints mc (fun m => !decide (m ∈ R)) .int trivial (fun x hx => ?_) (fun a => ?_)
    · walk_at "go"
      rw [isIn_ints]
      walk_at "lc"
    · walk_at "w"
      intro b
      walk_at "go"
      rw [eqv_nil, isEmpty_map, isEmpty_filter]
      simp only [Bool.not_not]
      exact q

end
end K
namespace K
open PySem PySem.Spec PyProof.Rows L2 DL
local macro_rules | `(tactic| walk_at "nod") => `(tactic| first | rfl | exact noD_tI _ | exact noD_ints _ | exact noD_tIs _ | (simp [noD, noDs, noDs_map, noDs_app, noDs_all]; done))
local macro_rules | `(tactic| walk_at "w") => `(tactic| conv => whnf)
local macro_rules | `(tactic| walk_at "side") => `(tactic| first | rfl | exact True.intro | assumption | exact shal_nil (by walk_at "nod") | exact shal_int (by walk_at "nod") | exact shal_bool (by walk_at "nod") | exact shal_str (by walk_at "nod") | exact shal_nilT (by walk_at "nod") | exact flat_ints _ | exact flat_strs _ | omega | exact le_line (Nat.le_of_ble_eq_true rfl))
local macro_rules | `(tactic| walk_at "lc") => `(tactic| first | exact ⟨rfl, fun _ => ⟨rfl, rfl⟩, fun _ => rfl⟩ | exact ⟨rfl, fun _ => ⟨rfl, rfl⟩, fun z => (by cases z)⟩ | exact ⟨fun _ => ⟨rfl, rfl⟩, fun _ => rfl⟩ | exact ⟨fun _ => ⟨rfl, rfl⟩, fun z => (by cases z)⟩)
local macro_rules | `(tactic| walk_at "lch") => `(tactic| first | exact ⟨by simp [*], fun _ => ⟨rfl, rfl⟩, fun _ => rfl⟩ | exact ⟨by simp [*], fun z => (by cases z), fun _ => rfl⟩ | exact ⟨by simp [*], fun _ => ⟨rfl, rfl⟩, fun z => (by cases z)⟩)
local macro_rules | `(tactic| walk_at "go") => `(tactic| (walk_at "w"; repeat ((first | (refine And.intro ?left ?_; (case left => walk_at "side")) | (refine Br.t ?_) | (refine Br.f ?_)); walk_at "w")))
section
variable {P : Program} {w : World} {K : PySem.W.Frag} {mg : Str → Option Value} {base : Heap}
abbrev s__law_alike : Stmt := topS 24
abbrev N__law_alike : List Str := ["_law_found", "_law_due", "_law_key", "_law_k"]
theorem sc__law_alike : FnScope N__law_alike ["_law_found", "_law_due"] (defScope s__law_alike) := ⟨rfl, rfl, rfl, by decide +kernel, rfl, by decide +kernel, by decide +kernel⟩
def spAl (n : Nat) : SpD := fun Γ Q _ => ∃ d : D, Γ = [.fz d, .fz d] ∧ Al n d ∧ Q (.fz (.bool true)) Γ
theorem msAl (n : Nat) : MonoSp (spAl n) := fun Γ Q Q' E E' h _ ⟨d, e, g, q⟩ => ⟨d, e, g, h _ _ q⟩
theorem ok_alike {f : Addr} {fd : FuncData} {n : Nat} (F : Fun K "_law_alike" "_law_alike" s__law_alike f fd) (B : Bl mg) (D__law_alike : DefOk P w K mg base n "_law_alike" ["_law_found", "_law_due"] 2 (spAl n)) : FnOk P w K mg base CX0 (n + 1) f fd ["_law_found", "_law_due"] (liftSp K 2 (spAl (n + 1))) := by
  refine fnd F sc__law_alike 2 rfl (msAl _) (fun X cdv A outer s H E hX hr => ?_)
  subst hX
  have hu := hu64 hr
  refine ⟨_, (pds_cons (pd_if (pb_cmp od_is (pdv 1) pd_non) (pds_one (pd_ret (pd_cmp od_is (pdv 0) pd_non))) pds_nil)
 (pds_cons (pd_if (pb_val (pd_is .bool rfl B.isinstance rfl B.bool bt_bool (pdv 1))) (pds_one (pd_ret (pd_and (pd_is .bool rfl B.isinstance rfl B.bool bt_bool (pdv 0)) (pd_one (pd_cmp (od_eq hu) (pdv 0) (pdv 1)))))) pds_nil)
 (pds_cons (pd_if (pb_val (pd_is .int rfl B.isinstance rfl B.int bt_int (pdv 1))) (pds_one (pd_ret (pd_and (pd_is .int rfl B.isinstance rfl B.int bt_int (pdv 0)) (pd_and (pd_not (pd_is .bool rfl B.isinstance rfl B.bool bt_bool (pdv 0))) (pd_one (pd_cmp (od_eq hu) (pdv 0) (pdv 1))))))) pds_nil)
 (pds_cons (pd_if (pb_val (pd_is .str rfl B.isinstance rfl B.str bt_str (pdv 1))) (pds_one (pd_ret (pd_and (pd_is .str rfl B.isinstance rfl B.str bt_str (pdv 0)) (pd_one (pd_cmp (od_eq hu) (pdv 0) (pdv 1)))))) pds_nil)
 (pds_cons (pd_if (pb_val (pd_is .dict rfl B.isinstance rfl B.dict bt_dict (pdv 1))) (pds_cons (pd_if (PBW.pb (pbw_or (pb_not (pb_val (pd_is .dict rfl B.isinstance rfl B.dict bt_dict (pdv 0)))) (pbw_or1 (pb_cmp (od_ne hu) (pd_callB cd_len rfl B.len bt_len (pad_cons (pdv 0) pad_nil)) (pd_callB cd_len rfl B.len bt_len (pad_cons (pdv 1) pad_nil)))))) (pds_one (pd_ret pd_bl)) pds_nil)
 (pds_one (pd_ret (pd_cmp (od_eq hu) (pd_lc [("_law_key", 2)] rfl sc__law_alike.nd (pid_seq (pdv 1)) (blkOk_by (N := N__law_alike) (sc := defScope s__law_alike) (by decide +kernel)) (fun _ _ _ _ _ => pgc_name 2 sc__law_alike.nd) (fun _ _ _ _ _ => pbs_one (PBW.pb (pbw_or (pb_cmp od_notIn (pdv 2) (pdv 0)) (pbw_or1 (pb_not (pb_val (pd_def D__law_alike hr (pad_cons (pd_ix (pdv 0) (pdv 2)) (pad_cons (pd_ix (pdv 1) (pdv 2)) pad_nil))))))))) (fun _ _ _ _ _ => (pdv 2))) (pd_lst pad_nil))))) pds_nil)
 (pds_cons (pd_if (PBW.pb (pbw_or (pb_cmp (od_ne hu) (pd_is .tuple rfl B.isinstance rfl B.tuple bt_tuple (pdv 1)) (pd_is .tuple rfl B.isinstance rfl B.tuple bt_tuple (pdv 0))) (pbw_or1 (pb_cmp (od_ne hu) (pd_is .list rfl B.isinstance rfl B.list bt_list (pdv 1)) (pd_is .list rfl B.isinstance rfl B.list bt_list (pdv 0)))))) (pds_one (pd_ret pd_bl)) pds_nil)
 (pds_cons (pd_if (pb_cmp (od_ne hu) (pd_callB cd_len rfl B.len bt_len (pad_cons (pdv 0) pad_nil)) (pd_callB cd_len rfl B.len bt_len (pad_cons (pdv 1) pad_nil))) (pds_one (pd_ret pd_bl)) pds_nil)
 (pds_one (pd_ret (pd_cmp (od_eq hu) (pd_lc [("_law_k", 3)] rfl sc__law_alike.nd (pid_rg1 rfl B.range (pd_callB cd_len rfl B.len bt_len (pad_cons (pdv 1) pad_nil))) (blkOk_by (N := N__law_alike) (sc := defScope s__law_alike) (by decide +kernel)) (fun _ _ _ _ _ => pgc_name 3 sc__law_alike.nd) (fun _ _ _ _ _ => pbs_one (pb_not (pb_val (pd_def D__law_alike hr (pad_cons (pd_ix (pdv 0) (pdv 3)) (pad_cons (pd_ix (pdv 1) (pdv 3)) pad_nil)))))) (fun _ _ _ _ _ => (pdv 3))) (pd_lst pad_nil))))))))))), fun Γ Q E' hl hsp => ?_⟩
  obtain ⟨d, rfl, al, q⟩ := hsp
  cases al with
  | non => walk_at "go"; exact q
  | bl => walk_at "go"; rw [eqv_bool, decide_eq_true rfl]; exact q
  | int => walk_at "go"; rw [eqv_int, decide_eq_true rfl]; exact q
  | str => walk_at "go"; rw [eqv_str, decide_eq_true rfl]; exact q
  | @tup _ ds h1 h2 =>
    walk_at "go"
    rw [eqv_int, decide_eq_true rfl]
    walk_at "go"
    refine ⟨RgOk.of_le (by decide) (by omega) (by decide) (by omega), ?_⟩
    walk_at "w"
    rw [rgD_ints]
    intro mc
    refine LcR.ints mc (fun _ => false) .int trivial (fun x hx => ?_) (fun a => ?_)
    · obtain ⟨x0, x1⟩ := rgI_mem.mp hx
      obtain ⟨j, rfl⟩ : ∃ j : Nat, x = (j : Int) := ⟨x.toNat, by omega⟩
      have hj : j < ds.length := by omega
      walk_at "go"
      rw [atD_nat, List.getElem?_eq_getElem hj]
      walk_at "go"
      rw [atD_nat, List.getElem?_eq_getElem hj]
      walk_at "go"
      refine ⟨_, rfl, h2 _ (List.getElem_mem hj), ?_⟩
      walk_at "go"
      walk_at "lc"
    · walk_at "w"
      intro b
      walk_at "go"
      rw [eqv_nil, isEmpty_map, isEmpty_filter]
      simp only [Bool.not_false, List.all_eq_true.mpr (fun _ _ => rfl)]
      exact q
  | @lst _ ds h1 h2 =>
    walk_at "go"
    rw [eqv_int, decide_eq_true rfl]
    walk_at "go"
    refine ⟨RgOk.of_le (by decide) (by omega) (by decide) (by omega), ?_⟩
    walk_at "w"
    rw [rgD_ints]
    intro mc
    refine LcR.ints mc (fun _ => false) .int trivial (fun x hx => ?_) (fun a => ?_)
    · obtain ⟨x0, x1⟩ := rgI_mem.mp hx
      obtain ⟨j, rfl⟩ : ∃ j : Nat, x = (j : Int) := ⟨x.toNat, by omega⟩
      have hj : j < ds.length := by omega
      walk_at "go"
      rw [atD_nat, List.getElem?_eq_getElem hj]
      walk_at "go"
      rw [atD_nat, List.getElem?_eq_getElem hj]
      walk_at "go"
      refine ⟨_, rfl, h2 _ (List.getElem_mem hj), ?_⟩
      walk_at "go"
      walk_at "lc"
    · walk_at "w"
      intro b
      walk_at "go"
      rw [eqv_nil, isEmpty_map, isEmpty_filter]
      simp only [Bool.not_false, List.all_eq_true.mpr (fun _ _ => rfl)]
      exact q

end
end K
namespace K
open PySem PySem.Spec PyProof.Rows L2 DL
local macro_rules | `(tactic| walk_at "nod") => `(tactic| first | rfl | exact noD_tI _ | exact noD_ints _ | exact noD_tIs _ | (simp [noD, noDs, noDs_map, noDs_app, noDs_all]; done))
local macro_rules | `(tactic| walk_at "w") => `(tactic| conv => whnf)
local macro_rules | `(tactic| walk_at "side") => `(tactic| first | rfl | exact True.intro | assumption | exact shal_nil (by walk_at "nod") | exact shal_int (by walk_at "nod") | exact shal_bool (by walk_at "nod") | exact shal_str (by walk_at "nod") | exact shal_nilT (by walk_at "nod") | exact flat_ints _ | exact flat_strs _ | omega | exact le_line (Nat.le_of_ble_eq_true rfl))
local macro_rules | `(tactic| walk_at "lc") => `(tactic| first | exact ⟨rfl, fun _ => ⟨rfl, rfl⟩, fun _ => rfl⟩ | exact ⟨rfl, fun _ => ⟨rfl, rfl⟩, fun z => (by cases z)⟩ | exact ⟨fun _ => ⟨rfl, rfl⟩, fun _ => rfl⟩ | exact ⟨fun _ => ⟨rfl, rfl⟩, fun z => (by cases z)⟩)
local macro_rules | `(tactic| walk_at "lch") => `(tactic| first | exact ⟨by simp [*], fun _ => ⟨rfl, rfl⟩, fun _ => rfl⟩ | exact ⟨by simp [*], fun z => (by cases z), fun _ => rfl⟩ | exact ⟨by simp [*], fun _ => ⟨rfl, rfl⟩, fun z => (by cases z)⟩)
local macro_rules | `(tactic| walk_at "go") => `(tactic| (walk_at "w"; repeat ((first | (refine And.intro ?left ?_; (case left => walk_at "side")) | (refine Br.t ?_) | (refine Br.f ?_)); walk_at "w")))
section
variable {P : Program} {w : World} {K : PySem.W.Frag} {mg : Str → Option Value} {base : Heap}
abbrev s_has : Stmt := topS 14
abbrev N_has : List Str := ["state", "some", "mark"]
theorem sc_has : FnScope N_has ["state", "some"] (defScope s_has) := ⟨rfl, rfl, rfl, by decide +kernel, rfl, by decide +kernel, by decide +kernel⟩
def sp_has : SpD := fun Γ Q _ => ∃ st sm : List Int, Γ = [.fz (tI st), .fz (tI sm)] ∧ Q (.fz (.bool (sm.all fun m => decide (m ∈ st)))) Γ
theorem ms_has : MonoSp sp_has := fun Γ Q Q' E E' h _ ⟨st, sm, e, q⟩ => ⟨st, sm, e, h _ _ q⟩
theorem ok_has {f : Addr} {fd : FuncData} (F : Fun K "has" "has" s_has f fd) (B : Bl mg) : FnOk P w K mg base CX0 1 f fd ["state", "some"] (liftSp K 2 sp_has) := by
  refine fnd F sc_has 2 rfl ms_has (fun X cdv A outer s H E hX hr => ?_)
  subst hX
  have hu := hu64 hr
  refine ⟨_, (pds_one (pd_ret (pd_cmp (od_eq hu) (pd_lc [("mark", 2)] rfl sc_has.nd (pid_seq (pdv 1)) (blkOk_by (N := N_has) (sc := defScope s_has) (by decide +kernel)) (fun _ _ _ _ _ => pgc_name 2 sc_has.nd) (fun _ _ _ _ _ => pbs_one (pb_cmp od_notIn (pdv 2) (pdv 0))) (fun _ _ _ _ _ => (pdv 2))) (pd_lst pad_nil)))), fun Γ Q E' hl hsp => ?_⟩
  obtain ⟨st, sm, rfl, q⟩ := hsp
  walk_at "w"
  intro mc
  refine LcR.ints mc (fun m => !decide (m ∈ st)) .int trivial (fun x hx => ?_) (fun a => ?_)
  · walk_at "go"
    rw [isIn_ints]
    exact ⟨rfl, fun _ => ⟨rfl, rfl⟩, fun _ => rfl⟩
  · walk_at "w"
    intro b
    walk_at "go"
    rw [eqv_nil, isEmpty_map, isEmpty_filter]
    simp only [Bool.not_not]
    exact q

end
end K
/-! M5: weights of marks; what a deed may take away at most; all states. -/
namespace K
open PySem DL L2
def wAt (ws : List Int) (m : Int) : Int := ws.getD m.toNat 0
def wSum (ws : List Int) (st : List Int) : Int := (st.map (wAt ws)).sum
def pos0 (x : Int) : Int := if x > 0 then x else 0
def fallS (d : Deed) (ws : List Int) : Int := (d.strikes.map fun m => if m ∈ d.needs then wAt ws m else pos0 (wAt ws m)).sum
def fallT (d : Deed) (ws : List Int) : Int := (d.sets.map fun m => if m ∈ d.needs then 0 else pos0 (0 - wAt ws m)).sum
def fallD (d : Deed) (ws : List Int) : Int := fallS d ws + fallT d ws
/-- all states of n marks, as the law makes them -/
def every : Nat → List (List Int)
  | 0 => [[]]
  | n + 1 => every n ++ (every n).map fun r => r ++ [((n : Nat) : Int)]
theorem every_mem : ∀ {n : Nat} {r : List Int}, r ∈ every n ↔ r.Pairwise (· < ·) ∧ ∀ x ∈ r, 0 ≤ x ∧ x < (n : Int)
  | 0, r => by
    show r ∈ [[]] ↔ _
    rw [List.mem_singleton]
    constructor
    · rintro rfl
      exact ⟨.nil, fun x hx => by cases hx⟩
    · rintro ⟨_, h⟩
      cases r with
      | nil => rfl
      | cons x r => have := h x List.mem_cons_self; omega
  | n + 1, r => by
    show r ∈ every n ++ (every n).map _ ↔ _
    rw [List.mem_append, List.mem_map, every_mem]
    constructor
    · rintro (⟨h1, h2⟩ | ⟨q, hq, rfl⟩)
      · exact ⟨h1, fun x hx => by have := h2 x hx; omega⟩
      · obtain ⟨h1, h2⟩ := every_mem.mp hq
        refine ⟨List.pairwise_append.mpr ⟨h1, List.pairwise_singleton _ _, fun a ha b hb => ?_⟩, fun x hx => ?_⟩
        · rw [List.mem_singleton.mp hb]
          exact (h2 a ha).2
        · rcases List.mem_append.mp hx with hx | hx
          · have := h2 x hx; omega
          · rw [List.mem_singleton.mp hx]; omega
    · rintro ⟨h1, h2⟩
      by_cases hn : ((n : Nat) : Int) ∈ r
      · right
        refine ⟨r.filter fun x => decide (x < (n : Int)), every_mem.mpr ⟨h1.filter _, fun x hx => ?_⟩, ?_⟩
        · obtain ⟨a, b⟩ := List.mem_filter.mp hx
          have := h2 x a
          have := of_decide_eq_true b
          omega
        · refine rise_eq (List.pairwise_append.mpr ⟨h1.filter _, List.pairwise_singleton _ _, fun a ha b hb => ?_⟩) h1 fun k => ?_
          · rw [List.mem_singleton.mp hb]
            exact of_decide_eq_true (List.mem_filter.mp ha).2
          · rw [List.mem_append, List.mem_filter, List.mem_singleton, decide_eq_true_iff]
            constructor
            · rintro (h | h)
              · exact h.1
              · rw [h]; exact hn
            · intro h
              have := h2 k h
              by_cases e : k = (n : Int)
              · exact .inr e
              · exact .inl ⟨h, by omega⟩
      · left
        refine ⟨h1, fun x hx => ?_⟩
        have := h2 x hx
        by_cases e : x = (n : Int)
        · subst e; exact absurd hx hn
        · omega
theorem enum_range (ws : List Int) : enumD 0 (ws.map PyData.int) = (List.range ws.length).map fun i => PyData.tuple [.int ((i : Nat) : Int), .int (wAt ws (i : Nat))] := by
  apply List.ext_getElem?
  intro i
  rw [List.getElem?_map]
  by_cases h : i < ws.length
  · rw [List.getElem?_range h]
    have hl : i < (enumD 0 (ws.map PyData.int)).length := by rw [enumD_len, List.length_map]; exact h
    rw [List.getElem?_eq_getElem hl]
    obtain ⟨d, h1, h2⟩ := enum0 (List.getElem?_eq_getElem hl)
    obtain ⟨v, h3, rfl⟩ := map_at h1
    rw [h2]
    show some (PyData.tuple [.int (i : Nat), .int v]) = some (PyData.tuple [.int (i : Nat), .int (ws.getD (((i : Nat) : Int)).toNat 0)])
    rw [Int.toNat_natCast, List.getD_eq_getElem?_getD, h3]
    rfl
  · have h1 : (enumD 0 (ws.map PyData.int)).length ≤ i := by rw [enumD_len, List.length_map]; omega
    have h2 : (List.range ws.length).length ≤ i := by rw [List.length_range]; omega
    rw [List.getElem?_eq_none h1, List.getElem?_eq_none h2]
    rfl
theorem every_len : ∀ n, (every n).length = 2 ^ n
  | 0 => rfl
  | n + 1 => by
    show (every n ++ (every n).map _).length = _
    rw [List.length_append, List.length_map, every_len n, Nat.pow_succ]
    omega
end K
/-! M6: the state behind a deed; sums over marks; the greatest fall, the greatest sum. -/
namespace K
open PySem DL L2
/-- a list's members, rising -/
def uniq : List Int → List Int
  | [] => []
  | x :: xs => if x ∈ xs then uniq xs else x :: uniq xs
theorem uniq_mem : ∀ {xs : List Int} {k : Int}, k ∈ uniq xs ↔ k ∈ xs
  | [], _ => .rfl
  | x :: xs, k => by
    unfold uniq
    split
    · rename_i h
      rw [uniq_mem, List.mem_cons]
      exact ⟨.inr, fun z => z.elim (fun e => e ▸ h) id⟩
    · rw [List.mem_cons, List.mem_cons, uniq_mem]
theorem uniq_nodup : ∀ {xs : List Int}, (uniq xs).Nodup
  | [] => .nil
  | x :: xs => by
    unfold uniq
    split
    · exact uniq_nodup
    · rename_i h
      exact List.nodup_cons.mpr ⟨fun z => h (uniq_mem.mp z), uniq_nodup⟩
def rise (xs : List Int) : List Int := (uniq xs).mergeSort (fun a b => decide (a ≤ b))
theorem rise_mem {xs : List Int} {k : Int} : k ∈ rise xs ↔ k ∈ xs := by
  unfold rise
  rw [(List.mergeSort_perm _ _).mem_iff, uniq_mem]
theorem rise_up (xs : List Int) : (rise xs).Pairwise (· < ·) := by
  have s : (rise xs).Pairwise (fun a b => decide (a ≤ b) = true) := List.pairwise_mergeSort (le := fun a b => decide (a ≤ b)) (fun a b c h1 h2 => by simp only [decide_eq_true_iff] at *; omega) (fun a b => by simp only [Bool.or_eq_true, decide_eq_true_iff]; omega) _
  exact up_of (s.imp fun h => of_decide_eq_true h) ((List.mergeSort_perm _ _).nodup_iff.mpr uniq_nodup)
/-- the state behind a deed -/
def aft (st : List Int) (d : Deed) : List Int := rise ((st ++ d.sets).filter fun m => !decide (m ∈ d.strikes))
theorem aft_mem {st : List Int} {d : Deed} {k : Int} : k ∈ aft st d ↔ (k ∈ st ∨ k ∈ d.sets) ∧ k ∉ d.strikes := by
  unfold aft
  rw [rise_mem, List.mem_filter, List.mem_append]
  simp
theorem aft_up (st : List Int) (d : Deed) : (aft st d).Pairwise (· < ·) := rise_up _
theorem aft_eq {st ys : List Int} {d : Deed} (h1 : ys.Pairwise (· < ·)) (h2 : ∀ k, k ∈ ys ↔ (k ∈ st ∨ k ∈ d.sets) ∧ k ∉ d.strikes) : ys = aft st d := rise_eq h1 (aft_up _ _) fun k => by rw [h2, aft_mem]
theorem sum_add (f g : Nat → Int) : ∀ l : List Nat, (l.map fun i => f i + g i).sum = (l.map f).sum + (l.map g).sum
  | [] => rfl
  | x :: l => by simp only [List.map_cons, List.sum_cons, sum_add f g l]; omega
theorem sum_sub (f g : Nat → Int) : ∀ l : List Nat, (l.map fun i => f i - g i).sum = (l.map f).sum - (l.map g).sum
  | [] => rfl
  | x :: l => by simp only [List.map_cons, List.sum_cons, sum_sub f g l]; omega
theorem sum_le {f g : Nat → Int} : ∀ {l : List Nat}, (∀ i ∈ l, f i ≤ g i) → (l.map f).sum ≤ (l.map g).sum
  | [], _ => Int.le_refl _
  | x :: l, h => by
    simp only [List.map_cons, List.sum_cons]
    have := h x List.mem_cons_self
    have := sum_le (l := l) fun i hi => h i (List.mem_cons_of_mem _ hi)
    omega
theorem sum_zero : ∀ l : List Nat, (l.map fun _ => (0 : Int)).sum = 0
  | [] => rfl
  | x :: l => by simp only [List.map_cons, List.sum_cons, sum_zero l]; omega
theorem sum_one {a : Int} (g : Int → Int) : ∀ {n : Nat}, 0 ≤ a → a < (n : Int) → ((List.range n).map fun i => if ((i : Nat) : Int) = a then g a else 0).sum = g a
  | 0, h0, h1 => by omega
  | n + 1, h0, h1 => by
    rw [List.range_succ, List.map_append, List.sum_append, List.map_singleton, List.sum_singleton]
    by_cases e : ((n : Nat) : Int) = a
    · rw [if_pos e]
      have z : ((List.range n).map fun i => if ((i : Nat) : Int) = a then g a else 0) = (List.range n).map fun _ => (0 : Int) := List.map_congr_left fun i hi => by
        have := List.mem_range.mp hi
        rw [if_neg (by omega)]
      rw [z, sum_zero]
      omega
    · rw [if_neg e, sum_one g h0 (by omega)]
      omega
/-- a sum over numbers below n -/
theorem sum_ind {n : Nat} (g : Int → Int) : ∀ {xs : List Int}, xs.Nodup → (∀ x ∈ xs, 0 ≤ x ∧ x < (n : Int)) → (xs.map g).sum = ((List.range n).map fun i => if ((i : Nat) : Int) ∈ xs then g (i : Nat) else 0).sum
  | [], _, _ => by
    simp only [List.map_nil, List.sum_nil, List.not_mem_nil, if_false, sum_zero]
  | x :: xs, h, r => by
    rw [List.nodup_cons] at h
    rw [List.map_cons, List.sum_cons, sum_ind g h.2 fun y hy => r y (List.mem_cons_of_mem _ hy)]
    have hx := r x List.mem_cons_self
    rw [← sum_one g hx.1 hx.2, ← sum_add]
    congr 1
    refine List.map_congr_left fun i hi => ?_
    simp only [List.mem_cons]
    by_cases e : ((i : Nat) : Int) = x
    · rw [if_pos e, if_neg (by rw [e]; exact h.1), if_pos (.inl e), e]
      omega
    · by_cases m : ((i : Nat) : Int) ∈ xs
      · rw [if_neg e, if_pos m, if_pos (.inr m)]
        omega
      · rw [if_neg e, if_neg m, if_neg (by rintro (z | z); exact e z; exact m z)]
        omega
structure FitD (n : Nat) (d : Deed) : Prop where
  nd : d.needs.Pairwise (· < ·)
  st : d.sets.Pairwise (· < ·)
  sk : d.strikes.Pairwise (· < ·)
  ndr : ∀ m ∈ d.needs, 0 ≤ m ∧ m < (n : Int)
  str : ∀ m ∈ d.sets, 0 ≤ m ∧ m < (n : Int)
  skr : ∀ m ∈ d.strikes, 0 ≤ m ∧ m < (n : Int)
  apart : ∀ m ∈ d.sets, m ∉ d.strikes
theorem aft_rg {n : Nat} {d : Deed} (h : FitD n d) {st : List Int} (r : ∀ m ∈ st, 0 ≤ m ∧ m < (n : Int)) : ∀ m ∈ aft st d, 0 ≤ m ∧ m < (n : Int) := fun m hm => by
  rcases (aft_mem.mp hm).1 with z | z
  · exact r m z
  · exact h.str m z
theorem fall_sum {ws : List Int} {d : Deed} (h : FitD ws.length d) : fallD d ws = ((List.range ws.length).map fun i => (if ((i : Nat) : Int) ∈ d.strikes then (if ((i : Nat) : Int) ∈ d.needs then wAt ws (i : Nat) else pos0 (wAt ws (i : Nat))) else 0)
    + (if ((i : Nat) : Int) ∈ d.sets then (if ((i : Nat) : Int) ∈ d.needs then 0 else pos0 (0 - wAt ws (i : Nat))) else 0)).sum := by
  unfold fallD fallS fallT
  rw [sum_add, sum_ind (n := ws.length) (fun m => if m ∈ d.needs then wAt ws m else pos0 (wAt ws m)) (nodup_up h.sk) h.skr, sum_ind (n := ws.length) (fun m => if m ∈ d.needs then 0 else pos0 (0 - wAt ws m)) (nodup_up h.st) h.str]
theorem drop_sum {ws : List Int} {d : Deed} (h : FitD ws.length d) {st : List Int} (u : st.Pairwise (· < ·)) (r : ∀ m ∈ st, 0 ≤ m ∧ m < (ws.length : Int)) : wSum ws st - wSum ws (aft st d)
    = ((List.range ws.length).map fun i => (if ((i : Nat) : Int) ∈ st then wAt ws (i : Nat) else 0) - (if ((i : Nat) : Int) ∈ aft st d then wAt ws (i : Nat) else 0)).sum := by
  unfold wSum
  rw [sum_sub, sum_ind (n := ws.length) (wAt ws) (nodup_up u) r, sum_ind (n := ws.length) (wAt ws) (nodup_up (aft_up st d)) (aft_rg h r)]
theorem fall_ub {ws : List Int} {d : Deed} (h : FitD ws.length d) {st : List Int} (u : st.Pairwise (· < ·)) (r : ∀ m ∈ st, 0 ≤ m ∧ m < (ws.length : Int)) (hn : ∀ m ∈ d.needs, m ∈ st) : wSum ws st - wSum ws (aft st d) ≤ fallD d ws := by
  rw [fall_sum h, drop_sum h u r]
  refine sum_le fun i _ => ?_
  have ap := h.apart (i : Nat)
  have hn := hn (i : Nat)
  simp only [aft_mem, pos0]
  by_cases h1 : ((i : Nat) : Int) ∈ st <;> by_cases h2 : ((i : Nat) : Int) ∈ d.needs <;> by_cases h3 : ((i : Nat) : Int) ∈ d.sets <;> by_cases h4 : ((i : Nat) : Int) ∈ d.strikes <;> simp only [h1, h2, h3, h4, if_true, if_false, true_or, or_true, false_or, or_false, not_true, not_false_eq_true, and_true, and_false, true_and, false_and, or_self, and_self] at * <;> (try contradiction) <;> (try (split <;> omega)) <;> (try omega) <;> (try exact absurd trivial (ap trivial))
theorem rg_filter {n : Nat} (p : Int → Bool) : ((rgI 0 n).filter p).Pairwise (· < ·) ∧ (∀ m ∈ (rgI 0 n).filter p, 0 ≤ m ∧ m < (n : Int)) ∧ ∀ i : Nat, i < n → (((i : Nat) : Int) ∈ (rgI 0 n).filter p ↔ p (i : Nat) = true) := by
  refine ⟨(rgI_up _ _).filter _, fun m hm => rgI_mem.mp (List.mem_filter.mp hm).1, fun i hi => ?_⟩
  rw [List.mem_filter, rgI_mem]
  exact ⟨fun h => h.2, fun h => ⟨⟨by omega, by omega⟩, h⟩⟩
theorem fall_max {ws : List Int} {d : Deed} (h : FitD ws.length d) : ∃ st : List Int, st.Pairwise (· < ·) ∧ (∀ m ∈ st, 0 ≤ m ∧ m < (ws.length : Int)) ∧ (∀ m ∈ d.needs, m ∈ st) ∧ wSum ws st - wSum ws (aft st d) = fallD d ws := by
  obtain ⟨h1, h2, h3⟩ := rg_filter (n := ws.length) fun m => decide (m ∈ d.needs) || (decide (m ∈ d.strikes) && decide (wAt ws m > 0)) || (decide (m ∈ d.sets) && decide (wAt ws m ≥ 0))
  refine ⟨_, h1, h2, fun m hm => ?_, ?_⟩
  · obtain ⟨k, rfl⟩ : ∃ k : Nat, m = (k : Int) := ⟨m.toNat, by have := h.ndr m hm; omega⟩
    rw [h3 k (by have := h.ndr _ hm; omega)]
    simp [hm]
  · rw [fall_sum h, drop_sum h h1 h2]
    congr 1
    refine List.map_congr_left fun i hi => ?_
    have ap := h.apart (i : Nat)
    simp only [aft_mem, h3 i (List.mem_range.mp hi), pos0, Bool.or_eq_true, Bool.and_eq_true, decide_eq_true_iff]
    by_cases h2 : ((i : Nat) : Int) ∈ d.needs <;> by_cases h3 : ((i : Nat) : Int) ∈ d.sets <;> by_cases h4 : ((i : Nat) : Int) ∈ d.strikes <;> simp only [h2, h3, h4, if_true, if_false, true_or, or_true, false_or, or_false, not_true, not_false_eq_true, and_true, and_false, true_and, false_and, or_self, and_self] at * <;> (try contradiction) <;> (try exact absurd trivial (ap trivial)) <;> (repeat split) <;> omega
theorem top_ub {ws wish : List Int} (w1 : wish.Pairwise (· < ·)) {st : List Int} (u : st.Pairwise (· < ·)) (r : ∀ m ∈ st, 0 ≤ m ∧ m < (ws.length : Int)) (hw : ∀ m ∈ wish, m ∈ st) :
    wSum ws st ≤ ((List.range ws.length).map fun i => if ((i : Nat) : Int) ∈ wish then wAt ws (i : Nat) else pos0 (wAt ws (i : Nat))).sum := by
  unfold wSum
  rw [sum_ind (n := ws.length) (wAt ws) (nodup_up u) r]
  refine sum_le fun i _ => ?_
  have hw := hw (i : Nat)
  unfold pos0
  by_cases h1 : ((i : Nat) : Int) ∈ st <;> by_cases h2 : ((i : Nat) : Int) ∈ wish <;> simp only [h1, h2, if_true, if_false] at * <;> (try contradiction) <;> (try exact absurd (hw trivial) id) <;> (repeat split) <;> omega
theorem top_max {ws wish : List Int} (wr : ∀ m ∈ wish, 0 ≤ m ∧ m < (ws.length : Int)) : ∃ st : List Int, st.Pairwise (· < ·) ∧ (∀ m ∈ st, 0 ≤ m ∧ m < (ws.length : Int)) ∧ (∀ m ∈ wish, m ∈ st) ∧
    wSum ws st = ((List.range ws.length).map fun i => if ((i : Nat) : Int) ∈ wish then wAt ws (i : Nat) else pos0 (wAt ws (i : Nat))).sum := by
  obtain ⟨h1, h2, h3⟩ := rg_filter (n := ws.length) fun m => decide (m ∈ wish) || decide (wAt ws m > 0)
  refine ⟨_, h1, h2, fun m hm => ?_, ?_⟩
  · obtain ⟨k, rfl⟩ : ∃ k : Nat, m = (k : Int) := ⟨m.toNat, by have := wr m hm; omega⟩
    rw [h3 k (by have := wr _ hm; omega)]
    simp [hm]
  · unfold wSum
    rw [sum_ind (n := ws.length) (wAt ws) (nodup_up h1) h2]
    congr 1
    refine List.map_congr_left fun i hi => ?_
    simp only [h3 i (List.mem_range.mp hi), pos0, Bool.or_eq_true, decide_eq_true_iff]
    by_cases h2 : ((i : Nat) : Int) ∈ wish <;> simp only [h2, if_true, if_false, true_or, false_or] <;> (repeat split) <;> omega
def topD (y : Yard) (ws : List Int) : Int := ((List.range ws.length).map fun i => if ((i : Nat) : Int) ∈ y.wish then wAt ws (i : Nat) else pos0 (wAt ws (i : Nat))).sum
theorem fitY {y : Yard} (g : GoodY y) : ∀ d ∈ y.deeds, FitD y.marks.length d := fun d hd => by
  obtain ⟨i, hi⟩ := List.mem_iff_getElem?.mp hd
  have gz := g.dd i d hi
  have a := areMarks_iff.mp gz.nd
  have b := areMarks_iff.mp gz.st
  have c := areMarks_iff.mp gz.sk
  exact ⟨a.1, b.1, c.1, a.2, b.2, c.2, gz.apart⟩
end K
/-! M7: numbers or never; what is lowered until it stands: the greatest table. -/
namespace K
open PySem DL L2
abbrev OI := Option Int
/-- a number, or none for never: the greatest -/
def leO : OI → OI → Prop
  | _, none => True
  | none, some _ => False
  | some x, some y => x ≤ y
def ltO : OI → OI → Bool
  | none, _ => false
  | some _, none => true
  | some x, some y => decide (x < y)
theorem leO_refl (a : OI) : leO a a := by cases a <;> simp [leO]
theorem leO_trans {a b c : OI} (h : leO a b) (g : leO b c) : leO a c := by
  cases a <;> cases b <;> cases c <;> simp [leO] at * <;> omega
theorem leO_anti {a b : OI} (h : leO a b) (g : leO b a) : a = b := by
  cases a <;> cases b <;> simp [leO] at * <;> omega
theorem ltO_iff {a b : OI} : ltO a b = true ↔ ¬ leO b a := by
  cases a <;> cases b <;> simp [leO, ltO]
theorem ltO_no {a b : OI} : ltO a b = false ↔ leO b a := by
  cases a <;> cases b <;> simp [leO, ltO]
theorem ltO_le {a b : OI} (h : ltO a b = true) : leO a b := by
  cases a <;> cases b <;> simp [leO, ltO] at * <;> omega
theorem leO_none {a : OI} : leO a none := by cases a <;> trivial
def addO (a : OI) (c : Int) : OI := a.map (· + c)
theorem addO_le {a b : OI} {c : Int} (h : leO a b) : leO (addO a c) (addO b c) := by
  cases a <;> cases b <;> simp [leO, addO] at * <;> omega
theorem foldl_max : ∀ (xs : List Int) (x : Int), (xs.foldl max x = x ∨ xs.foldl max x ∈ xs) ∧ x ≤ xs.foldl max x ∧ ∀ z ∈ xs, z ≤ xs.foldl max x
  | [], x => ⟨.inl rfl, Int.le_refl _, fun z hz => by cases hz⟩
  | y :: xs, x => by
    obtain ⟨h1, h2, h3⟩ := foldl_max xs (max x y)
    rw [List.foldl_cons]
    refine ⟨?_, by omega, fun z hz => ?_⟩
    · rcases h1 with h | h
      · rw [h]
        by_cases c : x ≤ y
        · right; rw [Int.max_eq_right c]; exact List.mem_cons_self
        · left; rw [Int.max_eq_left (by omega)]
      · right; exact List.mem_cons_of_mem _ h
    · rcases List.mem_cons.mp hz with rfl | hz
      · omega
      · exact h3 z hz
theorem maxDf_mem {c : Int} {xs : List Int} (h : xs ≠ []) : maxDf c xs ∈ xs ∧ ∀ z ∈ xs, z ≤ maxDf c xs := by
  cases xs with
  | nil => exact absurd rfl h
  | cons x xs =>
    obtain ⟨h1, h2, h3⟩ := foldl_max xs x
    refine ⟨?_, fun z hz => ?_⟩
    · rcases h1 with h | h
      · show xs.foldl max x ∈ _
        rw [h]; exact List.mem_cons_self
      · exact List.mem_cons_of_mem _ h
    · rcases List.mem_cons.mp hz with rfl | hz
      · exact h2
      · exact h3 z hz
def omax (xs : List OI) : OI := if none ∈ xs then none else some (maxDf 0 (xs.filterMap id))
theorem omax_none {xs : List OI} (h : none ∈ xs) : omax xs = none := if_pos h
theorem omax_nil : omax [] = some 0 := rfl
theorem omax_some {xs : List OI} (h : none ∉ xs) (hn : xs ≠ []) : ∃ v, omax xs = some v ∧ some v ∈ xs ∧ ∀ z, some z ∈ xs → z ≤ v := by
  have e : ∀ z : Int, z ∈ xs.filterMap id ↔ some z ∈ xs := fun z => by simp [List.mem_filterMap]
  have ne : xs.filterMap id ≠ [] := by
    cases xs with
    | nil => exact absurd rfl hn
    | cons x xs =>
      cases x with
      | none => exact absurd List.mem_cons_self h
      | some v => simp
  obtain ⟨h1, h2⟩ := maxDf_mem (c := 0) ne
  exact ⟨_, if_neg h, (e _).mp h1, fun z hz => h2 z ((e z).mpr hz)⟩
theorem omax_set {xs ys : List OI} (h : ∀ x, x ∈ xs ↔ x ∈ ys) : omax xs = omax ys := by
  by_cases hn : none ∈ xs
  · rw [omax_none hn, omax_none ((h _).mp hn)]
  · by_cases he : xs = []
    · subst he
      have : ys = [] := List.eq_nil_iff_forall_not_mem.mpr fun x hx => by have := (h x).mpr hx; cases this
      rw [this]
    · have hn' : none ∉ ys := fun z => hn ((h _).mpr z)
      have he' : ys ≠ [] := fun z => he (List.eq_nil_iff_forall_not_mem.mpr fun x hx => by have := (h x).mp hx; rw [z] at this; cases this)
      obtain ⟨v, h1, h2, h3⟩ := omax_some hn he
      obtain ⟨u, g1, g2, g3⟩ := omax_some hn' he'
      rw [h1, g1]
      have a := h3 u ((h _).mpr g2)
      have b := g3 v ((h _).mp h2)
      congr 1
      omega
theorem omax_le {α : Type} {ps : List α} {t t' : α → OI} (h : ∀ p ∈ ps, leO (t p) (t' p)) : leO (omax (ps.map t)) (omax (ps.map t')) := by
  by_cases hn : none ∈ ps.map t'
  · rw [omax_none hn]; exact leO_none
  · by_cases he : ps = []
    · subst he; exact leO_refl _
    · have hn2 : none ∉ ps.map t := fun z => by
        obtain ⟨p, hp, e⟩ := List.mem_map.mp z
        have := h p hp
        rw [e] at this
        cases e2 : t' p with
        | none => exact hn (List.mem_map.mpr ⟨p, hp, e2⟩)
        | some v => rw [e2] at this; exact this
      obtain ⟨v, h1, h2, h3⟩ := omax_some hn2 (by simpa using he)
      obtain ⟨u, g1, g2, g3⟩ := omax_some hn (by simpa using he)
      rw [h1, g1]
      obtain ⟨p, hp, e⟩ := List.mem_map.mp h2
      have hh := h p hp
      rw [e] at hh
      cases e2 : t' p with
      | none => exact absurd (List.mem_map.mpr ⟨p, hp, e2⟩) hn
      | some z =>
        rw [e2] at hh
        have := g3 z (List.mem_map.mpr ⟨p, hp, e2⟩)
        exact Int.le_trans hh this
theorem omax_bd {α : Type} {ps : List α} {t : α → OI} {B v : Int} (hB : 0 ≤ B) (h : ∀ p ∈ ps, ∀ v, t p = some v → 0 ≤ v ∧ v ≤ B) (e : omax (ps.map t) = some v) : 0 ≤ v ∧ v ≤ B := by
  by_cases hn : none ∈ ps.map t
  · rw [omax_none hn] at e; cases e
  · by_cases he : ps = []
    · subst he
      rw [List.map_nil, omax_nil] at e
      cases e
      exact ⟨Int.le_refl _, hB⟩
    · obtain ⟨u, h1, h2, h3⟩ := omax_some hn (by simpa using he)
      rw [h1] at e
      cases e
      obtain ⟨p, hp, e⟩ := List.mem_map.mp h2
      exact h p hp _ e
/-- the least of some -/
def minO (b c : OI) : OI := if ltO c b = true then c else b
theorem minO_le (b c : OI) : leO (minO b c) b ∧ leO (minO b c) c := by
  unfold minO
  split
  · rename_i h; exact ⟨ltO_le h, leO_refl _⟩
  · rename_i h; exact ⟨leO_refl _, ltO_no.mp (by simpa using h)⟩
def leastO {α : Type} (c : α → OI) (ds : List α) : OI := ds.foldl (fun b d => minO b (c d)) none
theorem leastO_from {α : Type} (c : α → OI) : ∀ (ds : List α) (b : OI), leO (ds.foldl (fun b d => minO b (c d)) b) b ∧ (∀ d ∈ ds, leO (ds.foldl (fun b d => minO b (c d)) b) (c d)) ∧ (ds.foldl (fun b d => minO b (c d)) b = b ∨ ∃ d ∈ ds, ds.foldl (fun b d => minO b (c d)) b = c d)
  | [], b => ⟨leO_refl _, fun d hd => (by cases hd), .inl rfl⟩
  | d :: ds, b => by
    obtain ⟨h1, h2, h3⟩ := leastO_from c ds (minO b (c d))
    obtain ⟨m1, m2⟩ := minO_le b (c d)
    rw [List.foldl_cons]
    refine ⟨leO_trans h1 m1, fun d' hd' => ?_, ?_⟩
    · rcases List.mem_cons.mp hd' with rfl | hd'
      · exact leO_trans h1 m2
      · exact h2 d' hd'
    · rcases h3 with h | ⟨d', hd', h⟩
      · rw [h]
        unfold minO
        split
        · exact .inr ⟨d, List.mem_cons_self, rfl⟩
        · exact .inl rfl
      · exact .inr ⟨d', List.mem_cons_of_mem _ hd', h⟩
theorem leastO_le {α : Type} {c : α → OI} {ds : List α} {d : α} (h : d ∈ ds) : leO (leastO c ds) (c d) := (leastO_from c ds none).2.1 d h
theorem leastO_is {α : Type} {c : α → OI} {ds : List α} : leastO c ds = none ∨ ∃ d ∈ ds, leastO c ds = c d := (leastO_from c ds none).2.2
theorem le_leastO {α : Type} {c : α → OI} {ds : List α} {x : OI} (h : ∀ d ∈ ds, leO x (c d)) : leO x (leastO c ds) := by
  rcases leastO_is (c := c) (ds := ds) with e | ⟨d, hd, e⟩
  · rw [e]; exact leO_none
  · rw [e]; exact h d hd
theorem leastO_mono {α : Type} {c c' : α → OI} {ds : List α} (h : ∀ d ∈ ds, leO (c d) (c' d)) : leO (leastO c ds) (leastO c' ds) := le_leastO fun d hd => leO_trans (leastO_le hd) (h d hd)
theorem leastO_app {α : Type} (c : α → OI) (ds : List α) (d : α) : leastO c (ds ++ [d]) = minO (leastO c ds) (c d) := by unfold leastO; rw [List.foldl_append]; rfl
/-! ### tables that are lowered -/
/-- what costs nothing, and by what the others are lowered -/
structure Low (α : Type) where
  base : α → Bool
  F : (α → OI) → α → OI
/-- F asks of the rows alone, grows with the table, and adds at most so much -/
structure LowOk {α : Type} (L : Low α) (rs : List α) : Prop where
  mono : ∀ t t' : α → OI, (∀ r ∈ rs, leO (t r) (t' r)) → ∀ r ∈ rs, leO (L.F t r) (L.F t' r)
  bd : ∀ (t : α → OI) (B : Int), 0 ≤ B → (∀ r ∈ rs, ∀ v, t r = some v → 0 ≤ v ∧ v ≤ B) → ∀ r ∈ rs, ∀ v, L.F t r = some v → 0 ≤ v ∧ v ≤ B + 99
section
variable {α : Type} [DecidableEq α] {L : Low α} {rs : List α}
def Shown (L : Low α) (rs : List α) (t : α → OI) : Prop := ∀ r ∈ rs, if L.base r = true then t r = some 0 else leO (t r) (L.F t r)
structure Greatest (L : Low α) (rs : List α) (t : α → OI) : Prop where
  shown : Shown L rs t
  top : ∀ s, Shown L rs s → ∀ r ∈ rs, leO (s r) (t r)
theorem Greatest.same {t t' : α → OI} (h : Greatest L rs t) (h' : Greatest L rs t') : ∀ r ∈ rs, t r = t' r := fun r hr => leO_anti (h'.top t h.shown r hr) (h.top t' h'.shown r hr)
theorem Shown.perm {rs' : List α} {t : α → OI} (h : Shown L rs t) (e : ∀ r, r ∈ rs' → r ∈ rs) : Shown L rs' t := fun r hr => h r (e r hr)
theorem Greatest.perm {rs' : List α} {t : α → OI} (h : Greatest L rs t) (e : ∀ r, r ∈ rs' ↔ r ∈ rs) : Greatest L rs' t := ⟨h.shown.perm fun r hr => (e r).mp hr, fun s hs r hr => h.top s (hs.perm fun r hr => (e r).mpr hr) r ((e r).mp hr)⟩
def cntO (rs : List α) (t : α → OI) : Nat := (rs.filter fun r => (t r).isSome).length
def meaO (B : Nat) : OI → Nat
  | none => B + 1
  | some v => v.toNat
def measO (rs : List α) (t : α → OI) : Nat := (rs.map fun r => meaO (99 * rs.length) (t r)).sum
structure LowI (L : Low α) (rs : List α) (t : α → OI) : Prop where
  base : ∀ r ∈ rs, L.base r = true → t r = some 0
  top : ∀ s, Shown L rs s → ∀ r ∈ rs, leO (s r) (t r)
  bd : ∀ r ∈ rs, ∀ v, t r = some v → 0 ≤ v ∧ v ≤ 99 * (cntO rs t : Int)
def start0 (L : Low α) : α → OI := fun r => if L.base r = true then some 0 else none
theorem LowI.start : LowI L rs (start0 L) := by
  refine ⟨fun r _ h => if_pos h, fun s hs r hr => ?_, fun r _ v e => ?_⟩
  · have := hs r hr
    unfold start0
    split
    · rename_i h; rw [if_pos h] at this; rw [this]; exact leO_refl _
    · exact leO_none
  · unfold start0 at e
    split at e
    · cases e; omega
    · cases e
theorem LowI.done {t : α → OI} (h : LowI L rs t) (d : ∀ r ∈ rs, L.base r = true ∨ ltO (L.F t r) (t r) = false) : Greatest L rs t := by
  refine ⟨fun r hr => ?_, h.top⟩
  split
  · rename_i hb; exact h.base r hr hb
  · rename_i hb
    rcases d r hr with z | z
    · exact absurd z hb
    · exact ltO_no.mp z
def updO (t : α → OI) (r : α) (v : OI) : α → OI := fun q => if q = r then v else t q
theorem sum_lt_of {f g : α → Nat} : ∀ {rs : List α}, (∀ r ∈ rs, f r ≤ g r) → (∃ r ∈ rs, f r < g r) → (rs.map f).sum < (rs.map g).sum
  | [], _, h => by obtain ⟨r, hr, _⟩ := h; cases hr
  | x :: rs, h, h2 => by
    simp only [List.map_cons, List.sum_cons]
    have hx := h x List.mem_cons_self
    have hle : (rs.map f).sum ≤ (rs.map g).sum := by
      have h' : ∀ r ∈ rs, f r ≤ g r := fun r hr => h r (List.mem_cons_of_mem _ hr)
      clear h h2 hx
      induction rs with
      | nil => exact Nat.le_refl _
      | cons y rs ih =>
        simp only [List.map_cons, List.sum_cons]
        have := h' y List.mem_cons_self
        have := ih fun r hr => h' r (List.mem_cons_of_mem _ hr)
        omega
    obtain ⟨r, hr, hlt⟩ := h2
    rcases List.mem_cons.mp hr with rfl | hr
    · omega
    · have := sum_lt_of (fun r hr => h r (List.mem_cons_of_mem _ hr)) ⟨r, hr, hlt⟩
      omega
theorem cnt_le {p q : α → Bool} : ∀ {rs : List α}, (∀ r ∈ rs, p r = true → q r = true) → (rs.filter p).length ≤ (rs.filter q).length
  | [], _ => Nat.le_refl _
  | x :: rs, h => by
    have ih := cnt_le (rs := rs) fun r hr => h r (List.mem_cons_of_mem _ hr)
    have hx := h x List.mem_cons_self
    rw [List.filter_cons, List.filter_cons]
    cases hp : p x with
    | true => rw [hx hp]; simp; exact ih
    | false =>
      cases q x
      · simpa using ih
      · simp; omega
theorem cnt_lt {p q : α → Bool} : ∀ {rs : List α}, (∀ r ∈ rs, p r = true → q r = true) → (∃ r ∈ rs, p r = false ∧ q r = true) → (rs.filter p).length < (rs.filter q).length
  | [], _, h => by obtain ⟨r, hr, _⟩ := h; cases hr
  | x :: rs, h, h2 => by
    obtain ⟨r, hr, e1, e2⟩ := h2
    have h' : ∀ r ∈ rs, p r = true → q r = true := fun r hr => h r (List.mem_cons_of_mem _ hr)
    rw [List.filter_cons, List.filter_cons]
    rcases List.mem_cons.mp hr with rfl | hr
    · rw [e1, e2]
      have := cnt_le h'
      simp; omega
    · have ih := cnt_lt h' ⟨r, hr, e1, e2⟩
      cases hp : p x with
      | true => rw [h x List.mem_cons_self hp]; simp; omega
      | false =>
        cases q x
        · simpa using ih
        · simp; omega
theorem LowI.step (ok : LowOk L rs) {t : α → OI} (h : LowI L rs t) {r : α} (hr : r ∈ rs) (nb : L.base r = false) (lt : ltO (L.F t r) (t r) = true) :
    LowI L rs (updO t r (L.F t r)) ∧ measO rs (updO t r (L.F t r)) < measO rs t := by
  obtain ⟨v, ev⟩ : ∃ v, L.F t r = some v := by
    cases e : L.F t r with
    | none => rw [e] at lt; cases lt
    | some v => exact ⟨v, rfl⟩
  have cle : cntO rs t ≤ rs.length := List.length_filter_le _ _
  have hv := ok.bd t (99 * (cntO rs t : Int)) (by omega) h.bd r hr v ev
  have cup : ∀ q ∈ rs, (t q).isSome = true → (updO t r (L.F t r) q).isSome = true := fun q _ hq => by
    unfold updO
    split
    · rw [ev]; rfl
    · exact hq
  have c1 : cntO rs t ≤ cntO rs (updO t r (L.F t r)) := cnt_le cup
  have c2 : cntO rs (updO t r (L.F t r)) ≤ rs.length := List.length_filter_le _ _
  have hv2 : v ≤ 99 * (cntO rs (updO t r (L.F t r)) : Int) := by
    cases e : t r with
    | none =>
      have : cntO rs t < cntO rs (updO t r (L.F t r)) := cnt_lt cup ⟨r, hr, by rw [e]; rfl, by unfold updO; rw [if_pos rfl, ev]; rfl⟩
      omega
    | some u =>
      rw [ev, e] at lt
      have lt : v < u := of_decide_eq_true lt
      have := (h.bd r hr u e).2
      omega
  refine ⟨⟨fun q hq hb => ?_, fun s hs q hq => ?_, fun q hq u e => ?_⟩, ?_⟩
  · unfold updO
    rw [if_neg fun z => by rw [z, nb] at hb; cases hb]
    exact h.base q hq hb
  · unfold updO
    split
    · rename_i z
      subst z
      have sr := hs q hq
      rw [if_neg (by rw [nb]; exact Bool.false_ne_true)] at sr
      exact leO_trans sr (ok.mono s t (fun p hp => h.top s hs p hp) q hq)
    · exact h.top s hs q hq
  · unfold updO at e
    split at e
    · rw [ev] at e; cases e; exact ⟨hv.1, hv2⟩
    · have := h.bd q hq u e
      omega
  · refine sum_lt_of (fun q hq => ?_) ⟨r, hr, ?_⟩
    · unfold updO
      split
      · rename_i z
        subst z
        rw [ev]
        cases e : t q with
        | none => show v.toNat ≤ 99 * rs.length + 1; omega
        | some u =>
          rw [ev, e] at lt
          have lt : v < u := of_decide_eq_true lt
          show v.toNat ≤ u.toNat
          omega
      · exact Nat.le_refl _
    · unfold updO
      rw [if_pos rfl, ev]
      cases e : t r with
      | none => show v.toNat < 99 * rs.length + 1; omega
      | some u =>
        rw [ev, e] at lt
        have lt : v < u := of_decide_eq_true lt
        show v.toNat < u.toNat
        omega
end
theorem LowI.ex {α : Type} [DecidableEq α] {L : Low α} {rs : List α} (ok : LowOk L rs) : ∀ (n : Nat) (t : α → OI), measO rs t ≤ n → LowI L rs t → ∃ t', Greatest L rs t'
  | n, t, hn, h => by
    by_cases z : ∀ r ∈ rs, L.base r = true ∨ ltO (L.F t r) (t r) = false
    · exact ⟨t, h.done z⟩
    · simp only [Classical.not_forall] at z
      obtain ⟨r, hr, z⟩ := z
      have nb : L.base r = false := by
        cases e : L.base r with
        | true => exact absurd (.inl e) z
        | false => rfl
      have lt : ltO (L.F t r) (t r) = true := by
        cases e : ltO (L.F t r) (t r) with
        | true => rfl
        | false => exact absurd (.inr e) z
      obtain ⟨h1, h2⟩ := h.step ok hr nb lt
      match n, hn with
      | 0, hn => omega
      | n + 1, hn => exact LowI.ex ok n _ (by omega) h1
theorem Greatest.ex {α : Type} [DecidableEq α] {L : Low α} {rs : List α} (ok : LowOk L rs) : ∃ t, Greatest L rs t := LowI.ex ok _ _ (Nat.le_refl _) .start
end K
/-! M8: sets of marks, parts of them, what deeds ask for some; tables held in dicts. -/
namespace K
open PySem DL L2
abbrev dT (p : Addr) (kvs : List (List Int × D)) : SV := .ow p (.dT kvs)
def oD : OI → D
  | none => .none
  | some v => .int v
def InR (n : Nat) (r : List Int) : Prop := r.Pairwise (· < ·) ∧ ∀ x ∈ r, 0 ≤ x ∧ x < (n : Int)
def lastP (r : List Int) : Int := match r.getLast? with
  | some x => x + 1
  | none => 0
def nextL (n : Nat) (r : List Int) : List (List Int) := (rgI (lastP r) (n : Int)).map fun m => r ++ [m]
/-- rising tuples of so many marks -/
def level (n : Nat) : Nat → List (List Int)
  | 0 => [[]]
  | k + 1 => (level n k).flatMap (nextL n)
theorem lastP_app (r : List Int) (x : Int) : lastP (r ++ [x]) = x + 1 := by unfold lastP; simp
theorem lastP_up {n : Nat} {r : List Int} (h : InR n r) : 0 ≤ lastP r ∧ ∀ x ∈ r, x < lastP r := by
  rcases List.eq_nil_or_concat r with rfl | ⟨r, x, rfl⟩
  · exact ⟨Int.le_refl _, fun x hx => by cases hx⟩
  · rw [List.concat_eq_append, lastP_app]
    rw [List.concat_eq_append] at h
    refine ⟨by have := (h.2 x (by simp)).1; omega, fun z hz => ?_⟩
    rcases List.mem_append.mp hz with hz | hz
    · have := (List.pairwise_append.mp h.1).2.2 z hz x (by simp)
      omega
    · rw [List.mem_singleton.mp hz]; omega
theorem nextL_mem {n : Nat} {a r : List Int} (h : InR n a) : r ∈ nextL n a ↔ ∃ m, r = a ++ [m] ∧ InR n r := by
  obtain ⟨l0, l1⟩ := lastP_up h
  unfold nextL
  rw [List.mem_map]
  constructor
  · rintro ⟨m, hm, rfl⟩
    obtain ⟨m0, m1⟩ := rgI_mem.mp hm
    refine ⟨m, rfl, List.pairwise_append.mpr ⟨h.1, List.pairwise_singleton _ _, fun x hx z hz => ?_⟩, fun x hx => ?_⟩
    · rw [List.mem_singleton.mp hz]
      have := l1 x hx
      omega
    · rcases List.mem_append.mp hx with hx | hx
      · exact h.2 x hx
      · rw [List.mem_singleton.mp hx]; omega
  · rintro ⟨m, rfl, h2⟩
    refine ⟨m, rgI_mem.mpr ⟨?_, (h2.2 m (by simp)).2⟩, rfl⟩
    rcases List.eq_nil_or_concat a with rfl | ⟨a, x, rfl⟩
    · exact (h2.2 m (by simp)).1
    · rw [List.concat_eq_append] at h2 ⊢
      rw [lastP_app]
      have := (List.pairwise_append.mp h2.1).2.2 x (by simp) m (by simp)
      omega
theorem level_mem {n : Nat} : ∀ {k : Nat} {r : List Int}, r ∈ level n k ↔ InR n r ∧ r.length = k
  | 0, r => by
    unfold level
    rw [List.mem_singleton]
    constructor
    · rintro rfl
      exact ⟨⟨.nil, fun x hx => by cases hx⟩, rfl⟩
    · rintro ⟨_, h⟩
      exact List.length_eq_zero_iff.mp h
  | k + 1, r => by
    unfold level
    rw [List.mem_flatMap]
    constructor
    · rintro ⟨a, ha, hr⟩
      obtain ⟨ia, la⟩ := level_mem.mp ha
      obtain ⟨m, rfl, h⟩ := (nextL_mem ia).mp hr
      exact ⟨h, by rw [List.length_append, la]; rfl⟩
    · rintro ⟨h, hl⟩
      rcases List.eq_nil_or_concat r with rfl | ⟨a, x, rfl⟩
      · cases hl
      · rw [List.concat_eq_append] at h hl ⊢
        have ia : InR n a := ⟨(List.pairwise_append.mp h.1).1, fun x hx => h.2 x (List.mem_append_left _ hx)⟩
        exact ⟨a, level_mem.mpr ⟨ia, by simpa using hl⟩, (nextL_mem ia).mpr ⟨x, rfl, h⟩⟩
theorem rgI_nodup (a b : Int) : (rgI a b).Nodup := nodup_up (rgI_up a b)
theorem level_nodup (n : Nat) : ∀ k, (level n k).Nodup
  | 0 => by unfold level; simp
  | k + 1 => by
    unfold level
    refine List.pairwise_flatMap.mpr ⟨fun a _ => ?_, ?_⟩
    · unfold nextL
      refine List.pairwise_map.mpr ((rgI_nodup _ _).imp fun h z => h ?_)
      have := List.append_cancel_left z
      simpa using this
    · refine (level_nodup n k).imp fun h x hx y hy z => h ?_
      unfold nextL at hx hy
      obtain ⟨m, _, rfl⟩ := List.mem_map.mp hx
      obtain ⟨m', _, rfl⟩ := List.mem_map.mp hy
      exact (List.append_inj' z rfl).1
theorem len_sub {α : Type} [DecidableEq α] : ∀ {xs ys : List α}, xs.Nodup → (∀ x ∈ xs, x ∈ ys) → xs.length ≤ ys.length
  | [], _, _, _ => Nat.zero_le _
  | x :: xs, ys, h, s => by
    rw [List.nodup_cons] at h
    have hx := s x List.mem_cons_self
    have := len_sub (xs := xs) (ys := ys.erase x) h.2 fun z hz => (List.mem_erase_of_ne (by rintro rfl; exact h.1 hz)).mpr (s z (List.mem_cons_of_mem _ hz))
    rw [List.length_erase_of_mem hx] at this
    have := List.length_pos_of_mem hx
    rw [List.length_cons]
    omega
theorem every_in {n : Nat} {r : List Int} : r ∈ every n ↔ InR n r := every_mem
theorem few_rows {n : Nat} {xs : List (List Int)} (hn : n ≤ 10) (h : xs.Nodup) (s : ∀ r ∈ xs, InR n r) : xs.length ≤ 1024 := by
  have a := len_sub h fun r hr => every_in.mpr (s r hr)
  rw [every_len] at a
  exact Nat.le_trans a (Nat.pow_le_pow_right (n := 2) (by decide) hn)
theorem level_len {n k : Nat} (hn : n ≤ 10) : (level n k).length ≤ 1024 := few_rows hn (level_nodup n k) fun r hr => (level_mem.mp hr).1
def rowsP (n w : Nat) : List (List Int) := (List.range w).flatMap fun j => level n (j + 1)
theorem rowsP_mem {n w : Nat} {r : List Int} : r ∈ rowsP n w ↔ InR n r ∧ 1 ≤ r.length ∧ r.length ≤ w := by
  unfold rowsP
  rw [List.mem_flatMap]
  constructor
  · rintro ⟨j, hj, hr⟩
    have := List.mem_range.mp hj
    obtain ⟨h1, h2⟩ := level_mem.mp hr
    exact ⟨h1, by omega, by omega⟩
  · rintro ⟨h1, h2, h3⟩
    exact ⟨r.length - 1, List.mem_range.mpr (by omega), level_mem.mpr ⟨h1, by omega⟩⟩
theorem rowsP_step (n w : Nat) : rowsP n (w + 1) = rowsP n w ++ level n (w + 1) := by
  unfold rowsP
  rw [List.range_succ, List.flatMap_append]
  simp
theorem rowsP_len {n : Nat} (hn : n ≤ 10) : ∀ w, (rowsP n w).length ≤ 1024 * w
  | 0 => by unfold rowsP; simp
  | w + 1 => by
    rw [rowsP_step, List.length_append]
    have := rowsP_len hn w
    have := level_len (k := w + 1) hn
    omega
def rowsL (n w : Nat) : List (List Int) := (every n).filter fun r => decide (1 ≤ r.length) && decide (r.length ≤ w)
theorem rowsL_mem {n w : Nat} {r : List Int} : r ∈ rowsL n w ↔ InR n r ∧ 1 ≤ r.length ∧ r.length ≤ w := by
  unfold rowsL
  rw [List.mem_filter, every_in]
  simp
theorem rows_same {n w : Nat} {r : List Int} : r ∈ rowsL n w ↔ r ∈ rowsP n w := by rw [rowsL_mem, rowsP_mem]
/-! ### parts -/
def pick (sm row : List Int) : List Int := row.map fun k => sm.getD k.toNat 0
theorem getD_lt {sm : List Int} (h : sm.Pairwise (· < ·)) {a b : Int} (h0 : 0 ≤ a) (h1 : a < b) (h2 : b < sm.length) : sm.getD a.toNat 0 < sm.getD b.toNat 0 := by
  have ha : a.toNat < sm.length := by omega
  have hb : b.toNat < sm.length := by omega
  have e1 : sm.getD a.toNat 0 = sm[a.toNat] := by simp [List.getD, List.getElem?_eq_getElem ha]
  have e2 : sm.getD b.toNat 0 = sm[b.toNat] := by simp [List.getD, List.getElem?_eq_getElem hb]
  rw [e1, e2]
  exact List.pairwise_iff_getElem.mp h _ _ ha hb (by omega)
theorem pick_in {n : Nat} {sm row : List Int} (h : InR n sm) (hr : InR sm.length row) : InR n (pick sm row) := by
  refine ⟨List.pairwise_map.mpr ?_, fun x hx => ?_⟩
  · refine List.Pairwise.imp_of_mem (fun {a b} ha hb hab => ?_) hr.1
    exact getD_lt h.1 (hr.2 a ha).1 hab (hr.2 b hb).2
  · obtain ⟨k, hk, rfl⟩ := List.mem_map.mp hx
    obtain ⟨k0, k1⟩ := hr.2 k hk
    have hk2 : k.toNat < sm.length := by omega
    rw [show sm.getD k.toNat 0 = sm[k.toNat] by simp [List.getD, List.getElem?_eq_getElem hk2]]
    exact h.2 _ (List.getElem_mem hk2)
def partsP (sm : List Int) (w : Nat) : List (List Int) := if sm.length ≤ w then (if sm = [] then [] else [sm]) else ((rowsP sm.length w).filter fun r => decide (r.length = w)).map (pick sm)
def partsL (sm : List Int) (w : Nat) : List (List Int) := if sm.length ≤ w then (if sm = [] then [] else [sm]) else ((every sm.length).filter fun r => decide (r.length = w)).map (pick sm)
theorem parts_same {sm : List Int} {w : Nat} (hw : 1 ≤ w) (p : List Int) : p ∈ partsP sm w ↔ p ∈ partsL sm w := by
  unfold partsP partsL
  split
  · exact .rfl
  · rw [List.mem_map, List.mem_map]
    refine exists_congr fun r => and_congr_left fun _ => ?_
    rw [List.mem_filter, List.mem_filter, rowsP_mem, every_in, decide_eq_true_iff]
    exact ⟨fun h => ⟨h.1.1, h.2⟩, fun h => ⟨⟨h.1, by omega, by omega⟩, h.2⟩⟩
theorem parts_in {n w : Nat} {sm : List Int} (hw : 1 ≤ w) (h : InR n sm) {p : List Int} (hp : p ∈ partsP sm w) : InR n p ∧ 1 ≤ p.length ∧ p.length ≤ w := by
  unfold partsP at hp
  split at hp
  · split at hp
    · cases hp
    · rename_i h1 h2
      rw [List.mem_singleton.mp hp]
      exact ⟨h, List.length_pos_iff.mpr h2, h1⟩
  · obtain ⟨r, hr, rfl⟩ := List.mem_map.mp hp
    obtain ⟨h1, h2⟩ := List.mem_filter.mp hr
    obtain ⟨i1, i2, i3⟩ := rowsP_mem.mp h1
    have h2 := of_decide_eq_true h2
    refine ⟨pick_in h i1, ?_, ?_⟩ <;> (unfold pick; rw [List.length_map]; omega)
theorem parts_len {n w : Nat} {sm : List Int} (hn : n ≤ 10) (hw : w ≤ 10) (h : InR n sm) : (partsP sm w).length ≤ 10240 := by
  unfold partsP
  split
  · split <;> simp
  · rw [List.length_map]
    have hl : sm.length ≤ 10 := by have := rise_len h.1 h.2 (by omega); omega
    have a := rowsP_len hl w
    have b := List.length_filter_le (fun r : List Int => decide (r.length = w)) (rowsP sm.length w)
    omega
/-! ### what deeds ask -/
def told (t : List Int → OI) (sm : List Int) (w : Nat) : OI := omax ((partsP sm w).map t)
theorem told_L {t : List Int → OI} {sm : List Int} {w : Nat} (hw : 1 ≤ w) : told t sm w = omax ((partsL sm w).map t) := omax_set fun x => by
  rw [List.mem_map, List.mem_map]
  exact exists_congr fun p => and_congr_left fun _ => parts_same hw p
def brought (d : Deed) (r : List Int) : Option (List Int) := if (r.any fun m => decide (m ∈ d.sets)) && (r.all fun m => !decide (m ∈ d.strikes)) then some (rise (r.filter (fun m => !decide (m ∈ d.sets)) ++ d.needs)) else none
theorem brought_in {n : Nat} {d : Deed} {r a : List Int} (f : FitD n d) (h : InR n r) (e : brought d r = some a) : InR n a := by
  unfold brought at e
  split at e
  · cases e
    refine ⟨rise_up _, fun x hx => ?_⟩
    rcases List.mem_append.mp (rise_mem.mp hx) with hx | hx
    · exact h.2 x (List.mem_filter.mp hx).1
    · exact f.ndr x hx
  · cases e
def costBy (t : List Int → OI) (r : List Int) (w : Nat) (d : Deed) : OI := match brought d r with
  | none => none
  | some a => addO (told t a w) d.cost
def costL (y : Yard) (w : Nat) : Low (List Int) := ⟨fun r => r.all fun m => decide (m ∈ y.start), fun t r => leastO (costBy t r w) y.deeds⟩
structure FitC (n : Nat) (y : Yard) : Prop where
  d : ∀ d ∈ y.deeds, FitD n d
  c : ∀ d ∈ y.deeds, 0 ≤ d.cost ∧ d.cost ≤ 99
def RowsOf (n w : Nat) (rs : List (List Int)) : Prop := ∀ r, r ∈ rs ↔ InR n r ∧ 1 ≤ r.length ∧ r.length ≤ w
theorem costOk {n w : Nat} {y : Yard} {rs : List (List Int)} (hw : 1 ≤ w) (f : FitC n y) (hr : RowsOf n w rs) : LowOk (costL y w) rs := by
  refine ⟨fun t t' h r hr' => ?_, fun t B hB h r hr' v e => ?_⟩
  · refine leastO_mono fun d hd => ?_
    unfold costBy
    cases eb : brought d r with
    | none => exact leO_refl _
    | some a => exact addO_le (omax_le fun p hp => h p ((hr p).mpr (parts_in hw (brought_in (f.d d hd) ((hr r).mp hr').1 eb) hp)))
  · rcases leastO_is (c := costBy t r w) (ds := y.deeds) with z | ⟨d, hd, z⟩
    · rw [show (costL y w).F t r = leastO (costBy t r w) y.deeds from rfl, z] at e
      cases e
    · rw [show (costL y w).F t r = leastO (costBy t r w) y.deeds from rfl, z] at e
      unfold costBy at e
      cases eb : brought d r with
      | none => rw [eb] at e; cases e
      | some a =>
        rw [eb] at e
        obtain ⟨u, eu, rfl⟩ := Option.map_eq_some_iff.mp e
        have := omax_bd hB (fun p hp => h p ((hr p).mpr (parts_in hw (brought_in (f.d d hd) ((hr r).mp hr').1 eb) hp))) eu
        have := f.c d hd
        omega
/-! ### a table in a dict -/
structure IsTab (rs : List (List Int)) (t : List Int → OI) (kvs : List (List Int × D)) : Prop where
  nd : (kvs.map (·.1)).Nodup
  keys : ∀ r, r ∈ kvs.map (·.1) ↔ r ∈ rs
  here : ∀ r ∈ rs, dtGet kvs r = some (oD (t r))
theorem put_nodup {kvs : List (List Int × D)} {r : List Int} {d : D} (h : (kvs.map (·.1)).Nodup) : ((dtPut kvs r d).map (·.1)).Nodup := by
  rw [dtPut_keys]
  split
  · exact h
  · rename_i n
    exact List.nodup_append.mpr ⟨h, by simp, fun a ha b hb e => n (by rw [← List.mem_singleton.mp hb, ← e]; exact ha)⟩
theorem IsTab.nil {t : List Int → OI} : IsTab [] t [] := ⟨.nil, fun r => .rfl, fun r hr => by cases hr⟩
/-- one more -/
theorem IsTab.more {rs : List (List Int)} {t : List Int → OI} {kvs : List (List Int × D)} (h : IsTab rs t kvs) (r : List Int) : IsTab (rs ++ [r]) t (dtPut kvs r (oD (t r))) := by
  refine ⟨put_nodup h.nd, fun q => ?_, fun q hq => ?_⟩
  · rw [dtPut_keys, List.mem_append, List.mem_singleton, ← h.keys]
    split
    · rename_i m
      exact ⟨.inl, fun z => z.elim id fun z => z ▸ m⟩
    · rw [List.mem_append, List.mem_singleton]
  · rw [dtGet_put]
    split
    · rename_i e; rw [e]
    · rename_i e
      rcases List.mem_append.mp hq with z | z
      · exact h.here q z
      · exact absurd (List.mem_singleton.mp z) e
theorem IsTab.put {rs : List (List Int)} {t : List Int → OI} {kvs : List (List Int × D)} (h : IsTab rs t kvs) {r : List Int} (hr : r ∈ rs) (v : OI) : IsTab rs (updO t r v) (dtPut kvs r (oD v)) := by
  refine ⟨put_nodup h.nd, fun q => ?_, fun q hq => ?_⟩
  · rw [dtPut_keys, if_pos ((h.keys r).mpr hr), h.keys]
  · rw [dtGet_put]
    unfold updO
    split
    · rfl
    · exact h.here q hq
theorem IsTab.same {rs rs' : List (List Int)} {t : List Int → OI} {kvs : List (List Int × D)} (h : IsTab rs t kvs) (e : ∀ r, r ∈ rs' ↔ r ∈ rs) : IsTab rs' t kvs := ⟨h.nd, fun r => by rw [h.keys, e], fun r hr => h.here r ((e r).mp hr)⟩
theorem IsTab.lens {rs : List (List Int)} {t t' : List Int → OI} {kvs kvs' : List (List Int × D)} (h : IsTab rs t kvs) (h' : IsTab rs t' kvs') : kvs.length = kvs'.length := by
  have a := len_sub h.nd fun r hr => (h'.keys r).mpr ((h.keys r).mp hr)
  have b := len_sub h'.nd fun r hr => (h.keys r).mpr ((h'.keys r).mp hr)
  simp only [List.length_map] at a b
  omega
theorem IsTab.few {n w : Nat} {rs : List (List Int)} {t : List Int → OI} {kvs : List (List Int × D)} (h : IsTab rs t kvs) (hn : n ≤ 10) (hr : RowsOf n w rs) : kvs.length ≤ 1024 := by
  have := few_rows hn h.nd fun r hr' => ((hr r).mp ((h.keys r).mp hr')).1
  rwa [List.length_map] at this
theorem oD_none {v : OI} : oD v = .none ↔ v = none := by cases v <;> simp [oD]
theorem oD_list {xs : List OI} (h : none ∉ xs) : xs.map oD = (xs.filterMap id).map PyData.int := by
  induction xs with
  | nil => rfl
  | cons x xs ih =>
    cases x with
    | none => exact absurd List.mem_cons_self h
    | some v =>
      rw [List.map_cons, ih fun z => h (List.mem_cons_of_mem _ z)]
      rfl
theorem isIn_none (xs : List OI) : isIn .none (xs.map oD) = decide (none ∈ xs) := by
  unfold isIn
  rw [List.any_map, Bool.eq_iff_iff]
  simp only [List.any_eq_true, Function.comp, decide_eq_true_iff]
  constructor
  · rintro ⟨x, hx, e⟩
    cases x with
    | none => exact hx
    | some v => simp [oD, PyData.eqv] at e
  · intro h
    exact ⟨none, h, by simp [oD, PyData.eqv]⟩
theorem flat_oD (xs : List OI) : (xs.map oD).all flat = true := by
  rw [List.all_eq_true]
  intro d hd
  obtain ⟨x, _, rfl⟩ := List.mem_map.mp hd
  cases x <;> rfl
theorem omax_num {xs : List OI} (h : none ∉ xs) : omax xs = some (maxDf 0 (xs.filterMap id)) := if_neg h
theorem minO_d {b c : OI} (h : ltO c b = true) : minO b c = c := if_pos h
theorem minO_n {b c : OI} (h : ltO c b = false) : minO b c = b := if_neg (by rw [h]; exact Bool.false_ne_true)
theorem in_len {n : Nat} {r : List Int} (h : InR n r) (hn : n ≤ 10) : r.length ≤ 10 := by
  have := rise_len h.1 h.2 (by omega)
  omega
theorem told_same {n w : Nat} {sm : List Int} {rs : List (List Int)} {t t' : List Int → OI} (hw : 1 ≤ w) (h : InR n sm) (hr : RowsOf n w rs) (e : ∀ r ∈ rs, t r = t' r) : told t sm w = told t' sm w := by
  unfold told
  congr 1
  exact List.map_congr_left fun p hp => e p ((hr p).mpr (parts_in hw h hp))
end K
/-! M10: plans, their labels and the labels' order; states that come about; dicts as lists of pairs. -/
namespace K
open PySem DL L2
/-! ### rows of numbers in order -/
def lexI : List Int → List Int → Bool
  | [], [] => false
  | [], _ :: _ => true
  | _ :: _, [] => false
  | x :: xs, y :: ys => if x = y then lexI xs ys else decide (x < y)
theorem lexI_irr : ∀ xs : List Int, lexI xs xs = false
  | [] => rfl
  | x :: xs => by rw [lexI, if_pos rfl]; exact lexI_irr xs
theorem lexI_tri : ∀ {xs ys : List Int}, lexI xs ys = false → lexI ys xs = false → xs = ys
  | [], [], _, _ => rfl
  | [], _ :: _, h, _ => by cases h
  | _ :: _, [], _, h => by cases h
  | x :: xs, y :: ys, h, g => by
    rw [lexI] at h g
    by_cases e : x = y
    · subst e
      rw [if_pos rfl] at h g
      rw [lexI_tri h g]
    · rw [if_neg e] at h
      rw [if_neg (Ne.symm e)] at g
      have h := of_decide_eq_false h
      have g := of_decide_eq_false g
      omega
theorem lexI_trans : ∀ {xs ys zs : List Int}, lexI xs ys = true → lexI ys zs = true → lexI xs zs = true
  | [], [], _, h, _ => by cases h
  | [], _ :: _, [], _, g => by cases g
  | [], _ :: _, _ :: _, _, _ => rfl
  | _ :: _, [], _, h, _ => by cases h
  | _ :: _, _ :: _, [], _, g => by cases g
  | x :: xs, y :: ys, z :: zs, h, g => by
    rw [lexI] at h g ⊢
    by_cases e : x = y
    · subst e
      rw [if_pos rfl] at h
      by_cases e2 : x = z
      · subst e2
        rw [if_pos rfl] at g ⊢
        exact lexI_trans h g
      · rw [if_neg e2] at g ⊢
        exact g
    · rw [if_neg e] at h
      have h := of_decide_eq_true h
      by_cases e2 : y = z
      · subst e2
        rw [if_neg e]
        exact decide_eq_true h
      · rw [if_neg e2] at g
        have g := of_decide_eq_true g
        rw [if_neg (by omega)]
        exact decide_eq_true (by omega)
theorem lexI_app : ∀ {xs ys : List Int} (k : Int), xs.length = ys.length → lexI xs ys = true → lexI (xs ++ [k]) (ys ++ [k]) = true
  | [], [], _, _, h => by cases h
  | [], _ :: _, _, e, _ => by cases e
  | _ :: _, [], _, e, _ => by cases e
  | x :: xs, y :: ys, k, e, h => by
    rw [lexI] at h
    rw [List.cons_append, List.cons_append, lexI]
    by_cases z : x = y
    · subst z
      rw [if_pos rfl] at h ⊢
      exact lexI_app k (by simpa using e) h
    · rw [if_neg z] at h ⊢
      exact h
/-! ### labels: what a plan costs, and the plan -/
abbrev Lab := Int × List Int
def labLt (a b : Lab) : Bool := if a.1 = b.1 then (if a.2.length = b.2.length then lexI a.2 b.2 else decide (a.2.length < b.2.length)) else decide (a.1 < b.1)
theorem labLt_irr (a : Lab) : labLt a a = false := by unfold labLt; rw [if_pos rfl, if_pos rfl]; exact lexI_irr _
theorem labLt_trans {a b c : Lab} (h : labLt a b = true) (g : labLt b c = true) : labLt a c = true := by
  unfold labLt at *
  by_cases e1 : a.1 = b.1 <;> by_cases e2 : b.1 = c.1
  · rw [if_pos e1] at h
    rw [if_pos e2] at g
    rw [if_pos (e1.trans e2)]
    by_cases l1 : a.2.length = b.2.length <;> by_cases l2 : b.2.length = c.2.length
    · rw [if_pos l1] at h; rw [if_pos l2] at g; rw [if_pos (l1.trans l2)]; exact lexI_trans h g
    · rw [if_neg l2] at g; rw [l1, if_neg l2]; exact g
    · rw [if_neg l1] at h; rw [← l2, if_neg l1]; exact h
    · rw [if_neg l1] at h
      rw [if_neg l2] at g
      have h := of_decide_eq_true h
      have g := of_decide_eq_true g
      rw [if_neg (by omega)]
      exact decide_eq_true (by omega)
  · rw [if_neg e2] at g; rw [e1, if_neg e2]; exact g
  · rw [if_neg e1] at h; rw [← e2, if_neg e1]; exact h
  · rw [if_neg e1] at h
    rw [if_neg e2] at g
    have h := of_decide_eq_true h
    have g := of_decide_eq_true g
    rw [if_neg (by omega)]
    exact decide_eq_true (by omega)
theorem labLt_tri {a b : Lab} (h : labLt a b = false) (g : labLt b a = false) : a = b := by
  unfold labLt at *
  obtain ⟨c, p⟩ := a
  obtain ⟨d, q⟩ := b
  simp only at h g
  by_cases e1 : c = d
  · subst e1
    rw [if_pos rfl] at h g
    by_cases l : p.length = q.length
    · rw [if_pos l] at h
      rw [if_pos l.symm] at g
      rw [lexI_tri h g]
    · rw [if_neg l] at h
      rw [if_neg (Ne.symm l)] at g
      have h := of_decide_eq_false h
      have g := of_decide_eq_false g
      omega
  · rw [if_neg e1] at h
    rw [if_neg (Ne.symm e1)] at g
    have h := of_decide_eq_false h
    have g := of_decide_eq_false g
    omega
/-- no later than -/
def leL (a b : Lab) : Prop := labLt b a = false
theorem leL_refl (a : Lab) : leL a a := labLt_irr a
theorem leL_of {a b : Lab} (h : labLt a b = true) : leL a b := by
  unfold leL
  cases e : labLt b a with
  | false => rfl
  | true => have := labLt_trans h e; rw [labLt_irr] at this; cases this
theorem leL_trans {a b c : Lab} (h : leL a b) (g : leL b c) : leL a c := by
  unfold leL at *
  cases e : labLt c a with
  | false => rfl
  | true =>
    cases e2 : labLt a b with
    | true => rw [labLt_trans e e2] at g; cases g
    | false => rw [labLt_tri e2 h] at e; rw [e] at g; cases g
theorem leL_anti {a b : Lab} (h : leL a b) (g : leL b a) : a = b := labLt_tri g h
theorem leL_total (a b : Lab) : leL a b ∨ leL b a := by
  cases e : labLt b a with
  | false => exact .inl e
  | true => exact .inr (leL_of e)
/-- the label of one deed more -/
def ext (a : Lab) (k : Int) (c : Int) : Lab := (a.1 + c, a.2 ++ [k])
theorem ext_gt (a : Lab) {k c : Int} (h : 0 ≤ c) : leL a (ext a k c) := by
  refine leL_of ?_
  unfold labLt ext
  by_cases e : a.1 = a.1 + c
  · rw [if_pos e, if_neg (by simp)]
    simp
  · rw [if_neg e]
    exact decide_eq_true (by simp only; omega)
theorem ext_mono {a b : Lab} (k c : Int) (h : leL a b) : leL (ext a k c) (ext b k c) := by
  cases e : labLt a b with
  | true =>
    refine leL_of ?_
    unfold labLt ext at *
    simp only [List.length_append, List.length_singleton, Nat.add_right_cancel_iff, Nat.add_lt_add_iff_right]
    by_cases e1 : a.1 = b.1
    · rw [if_pos e1] at e
      rw [if_pos (by omega)]
      by_cases l : a.2.length = b.2.length
      · rw [if_pos l] at e ⊢
        exact lexI_app k l e
      · rw [if_neg l] at e ⊢
        exact e
    · rw [if_neg e1] at e
      have e := of_decide_eq_true e
      rw [if_neg (by omega)]
      exact decide_eq_true (by omega)
  | false => rw [labLt_tri e h]; exact leL_refl _
theorem leL_cost {a b : Lab} (h : leL a b) : a.1 ≤ b.1 := by
  unfold leL labLt at h
  by_cases e : b.1 = a.1
  · omega
  · rw [if_neg e] at h
    have := of_decide_eq_false h
    omega
def labD (a : Lab) : D := .tuple [.int a.1, .int (a.2.length : Int), lI a.2]
theorem toks_ints : ∀ p q : List Int, PyProof.Rows.lexLt PyProof.Rows.itemOrd (PySem.W.keyToksAll (p.map PyData.int)) (PySem.W.keyToksAll (q.map PyData.int)) = lexI p q
  | [], [] => by first | rfl | decide
  | [], y :: ys => by
    rw [List.map_cons, List.map_nil]
    first | rfl | (simp [PySem.W.keyToksAll, lexI, PyProof.Rows.lexLt])
  | x :: xs, [] => by
    rw [List.map_cons, List.map_nil]
    first | rfl | (simp [PySem.W.keyToksAll, lexI, PyProof.Rows.lexLt])
  | x :: xs, y :: ys => by
    rw [List.map_cons, List.map_cons, lexI]
    by_cases e : x = y
    · subst e
      rw [if_pos rfl, PySem.W.dataLt_all_yes (by rfl) (by simp [PyData.eqv]), toks_ints xs ys]
    · rw [if_neg e, PySem.W.dataLt_all_no (by rfl) (by simp [PyData.eqv, e]), PySem.W.dataLt_int]
theorem alike_ints : ∀ p q : List Int, PySem.W.alikeAll (p.map PyData.int) (q.map PyData.int) = true
  | [], _ => by cases ‹List Int› <;> rfl
  | _ :: _, [] => rfl
  | x :: xs, y :: ys => by
    show (true && PySem.W.alikeAll (xs.map PyData.int) (ys.map PyData.int)) = true
    rw [alike_ints xs ys]
    rfl
theorem eqvAll_ints : ∀ p q : List Int, PyData.eqvAll (p.map PyData.int) (q.map PyData.int) = decide (p = q)
  | [], [] => rfl
  | [], _ :: _ => rfl
  | _ :: _, [] => rfl
  | x :: xs, y :: ys => by
    show ((x == y) && PyData.eqvAll (xs.map PyData.int) (ys.map PyData.int)) = _
    rw [eqvAll_ints xs ys]
    by_cases e : x = y
    · subst e; simp
    · simp [e]
theorem labD_alike (a b : Lab) : PySem.W.alikeAll [.int a.1, .int (a.2.length : Int), lI a.2] [.int b.1, .int (b.2.length : Int), lI b.2] = true := by
  show (true && (true && (PySem.W.alikeAll (a.2.map PyData.int) (b.2.map PyData.int) && true))) = true
  rw [alike_ints]
  rfl
theorem labD_lt (a b : Lab) : PySem.W.dataLt (labD a) (labD b) = labLt a b := by
  unfold labD
  rw [PySem.W.dataLt_tuple]
  unfold labLt
  by_cases e1 : a.1 = b.1
  · rw [if_pos e1, PySem.W.dataLt_all_yes (by rfl) (by simp [PyData.eqv, e1])]
    by_cases l : a.2.length = b.2.length
    · rw [if_pos l, PySem.W.dataLt_all_yes (by rfl) (by simp [PyData.eqv, l])]
      have al : PySem.W.alike (lI a.2) (lI b.2) = true := alike_ints a.2 b.2
      by_cases e2 : a.2 = b.2
      · rw [e2, PySem.W.dataLt_all_yes (by rw [← e2]; rw [e2] at al; rw [e2]; exact al) (by show PyData.eqvAll _ _ = true; rw [eqvAll_ints]; simp), lexI_irr]
        first | rfl | decide
      · rw [PySem.W.dataLt_all_no al (by show PyData.eqvAll _ _ = false; rw [eqvAll_ints]; simp [e2]), PySem.W.dataLt_list, toks_ints]
    · have l' : ¬ (a.2.length : Int) = (b.2.length : Int) := by omega
      rw [if_neg l, PySem.W.dataLt_all_no (by rfl) (by simp [PyData.eqv, l']), PySem.W.dataLt_int]
      by_cases z : a.2.length < b.2.length
      · rw [decide_eq_true z, decide_eq_true (by omega)]
      · rw [decide_eq_false z, decide_eq_false (by omega)]
  · rw [if_neg e1, PySem.W.dataLt_all_no (by rfl) (by simp [PyData.eqv, e1]), PySem.W.dataLt_int]
theorem depthAll_ints : ∀ p : List Int, PyData.depthAll (p.map PyData.int) ≤ 1
  | [] => by simp [PyData.depthAll]
  | x :: xs => by
    have := depthAll_ints xs
    simp only [List.map_cons, PyData.depthAll, PyData.depth]
    omega
theorem labD_depth (a : Lab) : (PyData.tuple [.int a.1, .int (a.2.length : Int), lI a.2]).depth ≤ 50 := by
  have := depthAll_ints a.2
  simp only [PyData.depth, PyData.depthAll]
  omega
/-! ### ways: plans that can be gone, with what they cost and where they end -/
inductive Way (y : Yard) : Int → List Int → List Int → Prop
  | nil : Way y 0 [] y.start
  | step {c : Int} {p s : List Int} {k : Nat} {d : Deed} : Way y c p s → y.deeds[k]? = some d → (∀ m ∈ d.needs, m ∈ s) → Way y (c + d.cost) (p ++ [(k : Int)]) (aft s d)
def Wished (y : Yard) (s : List Int) : Prop := ∀ m ∈ y.wish, m ∈ s
theorem start_in {y : Yard} (g : GoodY y) : InR y.marks.length y.start := areMarks_iff.mp g.b
theorem aft_in {n : Nat} {d : Deed} (f : FitD n d) {s : List Int} (h : InR n s) : InR n (aft s d) := ⟨aft_up s d, aft_rg f h.2⟩
theorem mem_at {α : Type} {xs : List α} {k : Nat} {d : α} (e : xs[k]? = some d) : d ∈ xs := List.mem_of_getElem? e
theorem cost_ok {y : Yard} (g : GoodY y) {k : Nat} {d : Deed} (e : y.deeds[k]? = some d) : 0 ≤ d.cost ∧ d.cost ≤ 99 := ⟨(g.dd k d e).c0, (g.dd k d e).c1⟩
theorem Way.inr {y : Yard} (g : GoodY y) {c : Int} {p s : List Int} (h : Way y c p s) : InR y.marks.length s := by
  induction h with
  | nil => exact start_in g
  | step _ e _ ih => exact aft_in (fitY g _ (mem_at e)) ih
theorem Way.nn {y : Yard} (g : GoodY y) {c : Int} {p s : List Int} (h : Way y c p s) : 0 ≤ c := by
  induction h with
  | nil => exact Int.le_refl _
  | step _ e _ ih => have := cost_ok g e; omega
theorem Way.le_cost {y : Yard} (g : GoodY y) {c : Int} {p s : List Int} (h : Way y c p s) : c ≤ 99 * (p.length : Int) := by
  induction h with
  | nil => simp
  | step _ e _ ih => have := cost_ok g e; simp only [List.length_append, List.length_singleton]; omega
/-! ### dicts as lists of pairs -/
section
variable {β : Type} {enc : β → D}
def eM (enc : β → D) (ws : List (List Int × β)) : List (List Int × D) := ws.map fun q => (q.1, enc q.2)
def mGet (ws : List (List Int × β)) (k : List Int) : Option β := (ws.find? fun p => decide (p.1 = k)).map (·.2)
def mPut (ws : List (List Int × β)) (k : List Int) (b : β) : List (List Int × β) := if (mGet ws k).isSome = true then ws.map (fun p => if p.1 = k then (p.1, b) else p) else ws ++ [(k, b)]
def mDrop (ws : List (List Int × β)) (k : List Int) : List (List Int × β) := ws.filter fun p => decide (p.1 ≠ k)
theorem mGet_nil {k : List Int} : mGet ([] : List (List Int × β)) k = none := rfl
theorem mGet_cons {p : List Int × β} {r : List (List Int × β)} {k : List Int} : mGet (p :: r) k = if p.1 = k then some p.2 else mGet r k := by
  unfold mGet
  rw [List.find?_cons]
  by_cases e : p.1 = k
  · rw [if_pos e, decide_eq_true e]; rfl
  · rw [if_neg e, decide_eq_false e]
theorem eM_get (ws : List (List Int × β)) (k : List Int) : dtGet (eM enc ws) k = (mGet ws k).map enc := by
  induction ws with
  | nil => rfl
  | cons p r ih =>
    show dtGet ((p.1, enc p.2) :: eM enc r) k = _
    rw [dtGet_cons, mGet_cons, ih]
    split <;> rfl
theorem eM_put (ws : List (List Int × β)) (k : List Int) (b : β) : dtPut (eM enc ws) k (enc b) = eM enc (mPut ws k b) := by
  unfold dtPut mPut
  rw [eM_get, Option.isSome_map]
  split
  · unfold eM
    rw [List.map_map, List.map_map]
    refine List.map_congr_left fun p _ => ?_
    simp only [Function.comp]
    split <;> rfl
  · unfold eM
    rw [List.map_append]
    rfl
theorem eM_drop (ws : List (List Int × β)) (k : List Int) : dtDrop (eM enc ws) k = eM enc (mDrop ws k) := by
  unfold dtDrop mDrop eM
  rw [List.filter_map]
  rfl
theorem eM_len (ws : List (List Int × β)) : (eM enc ws).length = ws.length := by unfold eM; rw [List.length_map]
theorem eM_keys (ws : List (List Int × β)) : (eM enc ws).map (·.1) = ws.map (·.1) := by unfold eM; rw [List.map_map]; rfl
theorem mGet_mem {ws : List (List Int × β)} {k : List Int} {b : β} (h : mGet ws k = some b) : (k, b) ∈ ws := by
  unfold mGet at h
  obtain ⟨p, hp, rfl⟩ := Option.map_eq_some_iff.mp h
  have h1 := List.mem_of_find?_eq_some hp
  have h2 := List.find?_some hp
  have e : p.1 = k := of_decide_eq_true h2
  rw [← e]; exact h1
theorem mGet_is {ws : List (List Int × β)} (nd : (ws.map (·.1)).Nodup) {k : List Int} {b : β} : mGet ws k = some b ↔ (k, b) ∈ ws := by
  refine ⟨mGet_mem, fun h => ?_⟩
  induction ws with
  | nil => cases h
  | cons p r ih =>
    rw [List.map_cons, List.nodup_cons] at nd
    rw [mGet_cons]
    rcases List.mem_cons.mp h with rfl | h
    · rw [if_pos rfl]
    · rw [if_neg (fun e => nd.1 (by rw [e]; exact List.mem_map.mpr ⟨_, h, rfl⟩))]
      exact ih nd.2 h
theorem mGet_some {ws : List (List Int × β)} {k : List Int} : (mGet ws k).isSome = true ↔ k ∈ ws.map (·.1) := by
  induction ws with
  | nil => simp [mGet_nil]
  | cons p r ih =>
    rw [mGet_cons, List.map_cons, List.mem_cons]
    by_cases e : p.1 = k
    · simp [e]
    · rw [if_neg e, ih]
      exact ⟨.inr, fun h => h.resolve_left fun z => e z.symm⟩
theorem mGet_none {ws : List (List Int × β)} {k : List Int} : mGet ws k = none ↔ k ∉ ws.map (·.1) := by
  rw [← mGet_some]
  cases mGet ws k <;> simp
theorem mPut_keys {ws : List (List Int × β)} {k : List Int} {b : β} : (mPut ws k b).map (·.1) = if k ∈ ws.map (·.1) then ws.map (·.1) else ws.map (·.1) ++ [k] := by
  unfold mPut
  by_cases h : k ∈ ws.map (·.1)
  · rw [if_pos (mGet_some.mpr h), if_pos h, List.map_map]
    refine List.map_congr_left fun p _ => ?_
    simp only [Function.comp]
    split <;> rfl
  · rw [if_neg (fun z => h (mGet_some.mp z)), if_neg h, List.map_append]; rfl
theorem mPut_nodup {ws : List (List Int × β)} {k : List Int} {b : β} (h : (ws.map (·.1)).Nodup) : ((mPut ws k b).map (·.1)).Nodup := by
  rw [mPut_keys]
  split
  · exact h
  · rename_i e
    refine List.nodup_append.mpr ⟨h, by simp, fun a ha b hb hab => ?_⟩
    rw [List.mem_singleton.mp hb] at hab
    subst hab
    exact e ha
theorem mPut_in {ws : List (List Int × β)} {k j : List Int} {b : β} : j ∈ (mPut ws k b).map (·.1) ↔ j = k ∨ j ∈ ws.map (·.1) := by
  rw [mPut_keys]
  split
  · rename_i h
    exact ⟨.inr, fun z => z.elim (fun e => by rw [e]; exact h) id⟩
  · rw [List.mem_append, List.mem_singleton]
    exact ⟨fun z => z.elim .inr .inl, fun z => z.elim .inr .inl⟩
theorem mGet_put {ws : List (List Int × β)} {k j : List Int} {b : β} : mGet (mPut ws k b) j = if j = k then some b else mGet ws j := by
  unfold mPut
  split
  · rename_i h
    induction ws with
    | nil => cases h
    | cons p r ih =>
      rw [List.map_cons, mGet_cons, mGet_cons]
      by_cases e : p.1 = k
      · rw [if_pos e]
        by_cases e2 : j = k
        · rw [if_pos e2, if_pos (by rw [e, e2])]
        · rw [if_neg e2, if_neg (fun z => e2 (by rw [← z]; exact e)), if_neg (fun z => e2 (by rw [← z]; exact e))]
          clear ih h
          induction r with
          | nil => rfl
          | cons q r ih =>
            rw [List.map_cons, mGet_cons, mGet_cons, ih]
            by_cases e3 : q.1 = k
            · rw [if_pos e3, if_neg (fun z => e2 (by rw [← z]; exact e3)), if_neg (fun z => e2 (by rw [← z]; exact e3))]
            · rw [if_neg e3]
      · rw [mGet_cons, if_neg e] at h
        rw [if_neg e, ih h]
        by_cases e2 : p.1 = j
        · rw [if_pos e2, if_pos e2, if_neg (fun z => e (by rw [e2, z]))]
        · rw [if_neg e2, if_neg e2]
  · rename_i h
    have hn : mGet ws k = none := by simpa using h
    clear h
    induction ws with
    | nil =>
      rw [List.nil_append, mGet_cons]
      by_cases e : j = k
      · rw [if_pos e, if_pos e.symm]
      · rw [if_neg e, if_neg (Ne.symm e)]
    | cons p r ih =>
      rw [mGet_cons] at hn
      by_cases e : p.1 = k
      · rw [if_pos e] at hn; cases hn
      · rw [if_neg e] at hn
        rw [List.cons_append, mGet_cons, mGet_cons, ih hn]
        by_cases e2 : p.1 = j
        · rw [if_pos e2, if_pos e2, if_neg (fun z => e (by rw [e2, z]))]
        · rw [if_neg e2, if_neg e2]
theorem mDrop_nodup {ws : List (List Int × β)} {k : List Int} (h : (ws.map (·.1)).Nodup) : ((mDrop ws k).map (·.1)).Nodup := h.sublist (List.filter_sublist.map _)
theorem mDrop_mem {ws : List (List Int × β)} {k : List Int} {q : List Int × β} : q ∈ mDrop ws k ↔ q ∈ ws ∧ q.1 ≠ k := by unfold mDrop; rw [List.mem_filter, decide_eq_true_iff]
theorem mDrop_in {ws : List (List Int × β)} {k j : List Int} : j ∈ (mDrop ws k).map (·.1) ↔ j ∈ ws.map (·.1) ∧ j ≠ k := by
  rw [List.mem_map, List.mem_map]
  constructor
  · rintro ⟨q, hq, rfl⟩
    exact ⟨⟨q, (mDrop_mem.mp hq).1, rfl⟩, (mDrop_mem.mp hq).2⟩
  · rintro ⟨⟨q, hq, rfl⟩, h⟩
    exact ⟨q, mDrop_mem.mpr ⟨hq, h⟩, rfl⟩
end
/-! ### going on from the label that is least -/
/-- what stands while the cheapest plan is looked for: waiting ones ws, states that are done ds with their least labels -/
structure Dij (y : Yard) (ws : List (List Int × Lab)) (ds : List (List Int × Lab)) : Prop where
  nw : (ws.map (·.1)).Nodup
  nd : (ds.map (·.1)).Nodup
  ap : ∀ s, s ∈ ws.map (·.1) → s ∉ ds.map (·.1)
  way : ∀ s l, (s, l) ∈ ws → Way y l.1 l.2 s
  dway : ∀ s l, (s, l) ∈ ds → Way y l.1 l.2 s ∧ ¬ Wished y s ∧ ∀ c p, Way y c p s → leL l (c, p)
  len : ∀ s l, (s, l) ∈ ws → l.2.length ≤ ds.length
theorem dij_start {y : Yard} : Dij y [(y.start, (0, []))] [] := by
  have one : ∀ s l, (s, l) ∈ [(y.start, ((0, []) : Lab))] → s = y.start ∧ l = (0, []) := fun s l h => by
    have h := List.mem_singleton.mp h
    cases h
    exact ⟨rfl, rfl⟩
  refine ⟨by simp, by simp, fun s _ h => by simp at h, fun s l h => ?_, fun s l h => (by cases h), fun s l h => ?_⟩
  · obtain ⟨rfl, rfl⟩ := one s l h
    exact .nil
  · obtain ⟨rfl, rfl⟩ := one s l h
    exact Nat.le_refl _
/-- behind the done ones all is done or waits, but for what deeds from the i-th on of the state s lead to -/
def Front (y : Yard) (ws ds : List (List Int × Lab)) (x : Option (List Int × Nat)) : Prop :=
  (y.start ∈ ds.map (·.1) ∨ ∃ l, (y.start, l) ∈ ws ∧ leL l (0, [])) ∧
  ∀ s l, (s, l) ∈ ds → ∀ (k : Nat) d, y.deeds[k]? = some d → (∀ i, x = some (s, i) → k < i) → (∀ m ∈ d.needs, m ∈ s) → aft s d ∈ ds.map (·.1) ∨ ∃ l', (aft s d, l') ∈ ws ∧ leL l' (ext l (k : Int) d.cost)
theorem front_start {y : Yard} : Front y [(y.start, (0, []))] [] none := ⟨.inr ⟨(0, []), by simp, leL_refl _⟩, fun s l h => by cases h⟩
/-- each way ends at a done state, or no way is ahead of some that wait -/
theorem front_way {y : Yard} (g : GoodY y) {ws ds : List (List Int × Lab)} (D : Dij y ws ds) (F : Front y ws ds none) {c : Int} {p s : List Int} (h : Way y c p s) : (∃ l, (s, l) ∈ ds) ∨ ∃ t l, (t, l) ∈ ws ∧ leL l (c, p) := by
  induction h with
  | nil =>
    rcases F.1 with h | ⟨l, h1, h2⟩
    · obtain ⟨q, hq, e⟩ := List.mem_map.mp h
      exact .inl ⟨q.2, by rw [← e]; exact hq⟩
    · exact .inr ⟨_, l, h1, h2⟩
  | @step c p s k d w e hn ih =>
    have le1 : leL (c, p) (c + d.cost, p ++ [(k : Int)]) := ext_gt (c, p) (cost_ok g e).1
    rcases ih with ⟨l, hl⟩ | ⟨t, l, h1, h2⟩
    · have le2 : leL (ext l (k : Int) d.cost) (c + d.cost, p ++ [(k : Int)]) := ext_mono (a := l) (b := (c, p)) (k : Int) d.cost ((D.dway s l hl).2.2 c p w)
      rcases F.2 s l hl k d e (fun i z => by cases z) hn with h | ⟨l', h1, h2⟩
      · obtain ⟨q, hq, e⟩ := List.mem_map.mp h
        exact .inl ⟨q.2, by rw [← e]; exact hq⟩
      · exact .inr ⟨_, l', h1, leL_trans h2 le2⟩
    · exact .inr ⟨t, l, h1, leL_trans h2 le1⟩
/-- what waits with the least label has it -/
theorem least_is {y : Yard} (g : GoodY y) {ws ds : List (List Int × Lab)} (D : Dij y ws ds) (F : Front y ws ds none) {s : List Int} {l : Lab} (hs : (s, l) ∈ ws) (hl : ∀ t l', (t, l') ∈ ws → leL l l') : (∀ c p, Way y c p s → leL l (c, p)) ∧ ∀ c p t, Way y c p t → Wished y t → leL l (c, p) := by
  refine ⟨fun c p w => ?_, fun c p t w hw => ?_⟩
  · rcases front_way g D F w with ⟨l', h⟩ | ⟨t, l', h1, h2⟩
    · exact absurd (List.mem_map.mpr ⟨_, h, rfl⟩) (D.ap s (List.mem_map.mpr ⟨_, hs, rfl⟩))
    · exact leL_trans (hl _ _ h1) h2
  · rcases front_way g D F w with ⟨l', h⟩ | ⟨t, l', h1, h2⟩
    · exact absurd hw (D.dway _ _ h).2.1
    · exact leL_trans (hl _ _ h1) h2
/-- the answer -/
def IsBest (y : Yard) : Option Lab → Prop
  | none => ∀ c p s, Way y c p s → ¬ Wished y s
  | some l => (∃ s, Way y l.1 l.2 s ∧ Wished y s) ∧ ∀ c p s, Way y c p s → Wished y s → leL l (c, p)
theorem IsBest.same {y : Yard} {a b : Option Lab} (h : IsBest y a) (g : IsBest y b) : a = b := by
  cases a with
  | none =>
    cases b with
    | none => rfl
    | some l => obtain ⟨⟨s, w, v⟩, _⟩ := g; exact absurd v (h _ _ _ w)
  | some l =>
    cases b with
    | none => obtain ⟨⟨s, w, v⟩, _⟩ := h; exact absurd v (g _ _ _ w)
    | some m =>
      obtain ⟨⟨s, w, v⟩, h2⟩ := h
      obtain ⟨⟨t, w', v'⟩, g2⟩ := g
      rw [leL_anti (h2 _ _ _ w' v') (g2 _ _ _ w v)]
def bestD : Option Lab → D
  | none => .none
  | some l => .tuple [.int l.1, lI l.2]
theorem dij_none {y : Yard} (g : GoodY y) {ds : List (List Int × Lab)} (D : Dij y [] ds) (F : Front y [] ds none) : IsBest y none := fun c p s w hw => by
  rcases front_way g D F w with ⟨l, h⟩ | ⟨t, l, h, _⟩
  · exact (D.dway _ _ h).2.1 hw
  · cases h
/-- the least one is done -/
theorem dij_pop {y : Yard} (g : GoodY y) {ws ds : List (List Int × Lab)} (D : Dij y ws ds) (F : Front y ws ds none) {s : List Int} {l : Lab} (hs : (s, l) ∈ ws) (hl : ∀ t l', (t, l') ∈ ws → leL l l') (hw : ¬ Wished y s) :
    Dij y (mDrop ws s) (ds ++ [(s, l)]) ∧ Front y (mDrop ws s) (ds ++ [(s, l)]) (some (s, 0)) := by
  have sn : s ∉ ds.map (·.1) := D.ap s (List.mem_map.mpr ⟨_, hs, rfl⟩)
  have km : ∀ t, t ∈ (ds ++ [(s, l)]).map (·.1) ↔ t ∈ ds.map (·.1) ∨ t = s := fun t => by rw [List.map_append, List.mem_append]; simp
  refine ⟨⟨mDrop_nodup D.nw, ?_, fun t ht h => ?_, fun t l' h => D.way t l' (mDrop_mem.mp h).1, fun t l' h => ?_, fun t l' h => ?_⟩, ?_, fun t l' h k d e hx hn => ?_⟩
  · rw [List.map_append]
    refine List.nodup_append.mpr ⟨D.nd, by simp, fun a ha b hb hab => ?_⟩
    have hb : b = s := by simpa using hb
    rw [← hab] at hb
    rw [hb] at ha
    exact sn ha
  · obtain ⟨h1, h2⟩ := mDrop_in.mp ht
    rcases (km t).mp h with h | h
    · exact D.ap t h1 h
    · exact h2 h
  · rcases List.mem_append.mp h with h | h
    · exact D.dway t l' h
    · have h := List.mem_singleton.mp h
      cases h
      exact ⟨D.way s l hs, hw, (least_is g D F hs hl).1⟩
  · rw [List.length_append]
    have := D.len t l' (mDrop_mem.mp h).1
    simp only [List.length_singleton]
    omega
  · rcases F.1 with h | ⟨l', h1, h2⟩
    · exact .inl ((km _).mpr (.inl h))
    · by_cases z : y.start = s
      · exact .inl ((km _).mpr (.inr z))
      · exact .inr ⟨l', mDrop_mem.mpr ⟨h1, z⟩, h2⟩
  · rcases List.mem_append.mp h with h | h
    · rcases F.2 t l' h k d e (fun i z => by cases z) hn with h | ⟨l2, h1, h2⟩
      · exact .inl ((km _).mpr (.inl h))
      · by_cases z : aft t d = s
        · exact .inl ((km _).mpr (.inr z))
        · exact .inr ⟨l2, mDrop_mem.mpr ⟨h1, z⟩, h2⟩
    · have h := List.mem_singleton.mp h
      cases h
      exact absurd (hx 0 rfl) (Nat.not_lt_zero _)
/-- nothing is put: what the i-th deed leads to is done, or waits with no later label; or the deed can't be done -/
theorem front_skip {y : Yard} {ws ds : List (List Int × Lab)} {s : List Int} {l : Lab} {i : Nat} {d : Deed} (F : Front y ws ds (some (s, i))) (nd : (ds.map (·.1)).Nodup) (hs : (s, l) ∈ ds) (e : y.deeds[i]? = some d)
    (h : (∀ m ∈ d.needs, m ∈ s) → aft s d ∈ ds.map (·.1) ∨ ∃ l', (aft s d, l') ∈ ws ∧ leL l' (ext l (i : Int) d.cost)) : Front y ws ds (some (s, i + 1)) := by
  refine ⟨F.1, fun t l' ht k d' e' hx hn => ?_⟩
  by_cases z : t = s ∧ k = i
  · obtain ⟨rfl, rfl⟩ := z
    rw [e] at e'
    cases e'
    have : l' = l := by
      have a := (mGet_is nd).mpr ht
      rw [(mGet_is nd).mpr hs] at a
      exact (Option.some.inj a).symm
    rw [this]
    exact h hn
  · refine F.2 t l' ht k d' e' (fun j hj => ?_) hn
    cases hj
    have := hx (i + 1) rfl
    rcases Nat.lt_or_ge k i with y | y
    · exact y
    · exact absurd ⟨rfl, by omega⟩ z
theorem dij_put {y : Yard} (g : GoodY y) {ws ds : List (List Int × Lab)} {s : List Int} {l : Lab} {i : Nat} {d : Deed} (D : Dij y ws ds) (F : Front y ws ds (some (s, i))) (hs : (s, l) ∈ ds) (hl : l.2.length < ds.length) (e : y.deeds[i]? = some d) (hn : ∀ m ∈ d.needs, m ∈ s)
    (n1 : aft s d ∉ ds.map (·.1)) (n2 : ∀ l', (aft s d, l') ∈ ws → leL (ext l (i : Int) d.cost) l') : Dij y (mPut ws (aft s d) (ext l (i : Int) d.cost)) ds ∧ Front y (mPut ws (aft s d) (ext l (i : Int) d.cost)) ds (some (s, i + 1)) := by
  have nw' := mPut_nodup (k := aft s d) (b := ext l (i : Int) d.cost) D.nw
  have mem : ∀ t l', (t, l') ∈ mPut ws (aft s d) (ext l (i : Int) d.cost) ↔ (t = aft s d ∧ l' = ext l (i : Int) d.cost) ∨ (t ≠ aft s d ∧ (t, l') ∈ ws) := fun t l' => by
    rw [← mGet_is nw', mGet_put]
    by_cases z : t = aft s d
    · rw [if_pos z]
      constructor
      · intro h; exact .inl ⟨z, (Option.some.inj h).symm⟩
      · rintro (h | h)
        · rw [h.2]
        · exact absurd z h.1
    · rw [if_neg z, mGet_is D.nw]
      exact ⟨fun h => .inr ⟨z, h⟩, fun h => h.elim (fun h => absurd h.1 z) (·.2)⟩
  have keep : ∀ t l', (t, l') ∈ ws → ∃ l2, (t, l2) ∈ mPut ws (aft s d) (ext l (i : Int) d.cost) ∧ leL l2 l' := fun t l' h => by
    by_cases z : t = aft s d
    · subst z
      exact ⟨_, (mem _ _).mpr (.inl ⟨rfl, rfl⟩), n2 l' h⟩
    · exact ⟨l', (mem _ _).mpr (.inr ⟨z, h⟩), leL_refl _⟩
  have F' : Front y (mPut ws (aft s d) (ext l (i : Int) d.cost)) ds (some (s, i)) := by
    refine ⟨F.1.imp id fun ⟨l', h1, h2⟩ => ?_, fun t l' ht k d' e' hx hn' => (F.2 t l' ht k d' e' hx hn').imp id fun ⟨l2, h1, h2⟩ => ?_⟩
    · obtain ⟨l2, a, b⟩ := keep _ _ h1
      exact ⟨l2, a, leL_trans b h2⟩
    · obtain ⟨l3, a, b⟩ := keep _ _ h1
      exact ⟨l3, a, leL_trans b h2⟩
  refine ⟨⟨nw', D.nd, fun t ht => ?_, fun t l' h => ?_, D.dway, fun t l' h => ?_⟩, front_skip F' D.nd hs e fun _ => .inr ⟨_, (mem _ _).mpr (.inl ⟨rfl, rfl⟩), leL_refl _⟩⟩
  · rcases mPut_in.mp ht with h | h
    · rw [h]; exact n1
    · exact D.ap t h
  · rcases (mem t l').mp h with ⟨rfl, rfl⟩ | ⟨_, h⟩
    · exact .step (D.dway _ _ hs).1 e hn
    · exact D.way _ _ h
  · rcases (mem t l').mp h with ⟨rfl, rfl⟩ | ⟨_, h⟩
    · unfold ext
      simp only [List.length_append, List.length_singleton]
      omega
    · exact D.len _ _ h
theorem front_done {y : Yard} {ws ds : List (List Int × Lab)} {s : List Int} {i : Nat} (F : Front y ws ds (some (s, i))) (h : y.deeds.length ≤ i) : Front y ws ds none :=
  ⟨F.1, fun t l ht k d e _ hn => F.2 t l ht k d e (fun j hj => by
    cases hj
    have := (List.getElem?_eq_some_iff.mp e).1
    omega) hn⟩
theorem dij_few {y : Yard} (g : GoodY y) {ws ds : List (List Int × Lab)} (D : Dij y ws ds) : ws.length ≤ 1024 ∧ ds.length ≤ 1024 := by
  have h := g.m2
  refine ⟨?_, ?_⟩
  · rw [← List.length_map (f := (·.1))]
    refine few_rows h D.nw fun r hr => ?_
    obtain ⟨q, hq, rfl⟩ := List.mem_map.mp hr
    exact (D.way q.1 q.2 hq).inr g
  · rw [← List.length_map (f := (·.1))]
    refine few_rows h D.nd fun r hr => ?_
    obtain ⟨q, hq, rfl⟩ := List.mem_map.mp hr
    exact (D.dway q.1 q.2 hq).1.inr g
end K
/-! M11: plans gone through, state by state. -/
namespace K
open PySem DL L2
structure Gone (y : Yard) (p : List Int) (sts : List (List Int)) : Prop where
  len : sts.length = p.length + 1
  st : sts[0]? = some y.start
  go : ∀ (i : Nat) k, p[i]? = some k → ∃ (j : Nat) (d : Deed) (s : List Int), k = (j : Int) ∧ y.deeds[j]? = some d ∧ sts[i]? = some s ∧ (∀ m ∈ d.needs, m ∈ s) ∧ sts[i + 1]? = some (aft s d)
theorem Gone.nil {y : Yard} : Gone y [] [y.start] := ⟨rfl, rfl, fun i k h => by simp at h⟩
theorem Gone.snoc {y : Yard} {p : List Int} {sts : List (List Int)} {s : List Int} {j : Nat} {d : Deed} (h : Gone y p (sts ++ [s])) (e : y.deeds[j]? = some d) (hn : ∀ m ∈ d.needs, m ∈ s) : Gone y (p ++ [(j : Int)]) (sts ++ [s] ++ [aft s d]) := by
  have hl := h.len
  rw [List.length_append, List.length_singleton] at hl
  refine ⟨by simp only [List.length_append, List.length_singleton]; omega, ?_, fun i k hk => ?_⟩
  · rw [List.getElem?_append_left (by simp)]
    exact h.st
  · rcases Nat.lt_trichotomy i p.length with z | z | z
    · rw [List.getElem?_append_left z] at hk
      obtain ⟨j', d', s', a, b, c, e', f⟩ := h.go i k hk
      have li : i + 1 < (sts ++ [s]).length := by rw [List.length_append, List.length_singleton]; omega
      exact ⟨j', d', s', a, b, by rw [List.getElem?_append_left (by omega)]; exact c, e', by rw [List.getElem?_append_left li]; exact f⟩
    · subst z
      rw [List.getElem?_append_right (Nat.le_refl _), Nat.sub_self] at hk
      have hk : (j : Int) = k := by simpa using hk
      have el : sts.length = p.length := by omega
      refine ⟨j, d, s, hk.symm, e, ?_, hn, ?_⟩
      · rw [List.getElem?_append_left (by simp; omega), List.getElem?_append_right (by omega), el, Nat.sub_self]
        rfl
      · rw [List.getElem?_append_right (by simp; omega)]
        simp [el]
    · rw [List.getElem?_eq_none (by rw [List.length_append, List.length_singleton]; omega)] at hk
      cases hk
theorem gone_last {y : Yard} {p : List Int} {sts : List (List Int)} (h : Gone y p sts) : ∃ a s, sts = a ++ [s] := by
  have hl := h.len
  rcases List.eq_nil_or_concat sts with z | ⟨a, s, z⟩
  · rw [z] at hl; simp at hl
  · exact ⟨a, s, by rw [z, List.concat_eq_append]⟩
def d0 : Deed := ⟨⟨#[]⟩, [], [], [], 0⟩
def deedAt (y : Yard) (x : Int) : Deed := y.deeds.getD x.toNat d0
theorem deedAt_nat {y : Yard} {j : Nat} (h : j < y.deeds.length) : y.deeds[j]? = some (deedAt y (j : Int)) := by
  unfold deedAt
  rw [Int.toNat_natCast, List.getD_eq_getElem?_getD, List.getElem?_eq_getElem h]
  rfl
theorem deedAt_is {y : Yard} {j : Nat} {d : Deed} (h : y.deeds[j]? = some d) : deedAt y (j : Int) = d := by
  unfold deedAt
  rw [Int.toNat_natCast, List.getD_eq_getElem?_getD, h]
  rfl
theorem deedsD_at {y : Yard} {j : Nat} (h : j < y.deeds.length) : (y.deeds.map dD)[j]? = some (dD (deedAt y (j : Int))) := by rw [List.getElem?_map, deedAt_nat h]; rfl
def canD (y : Yard) (s : List Int) (x : Int) : Bool := (deedAt y x).needs.all fun m => decide (m ∈ s)
theorem canD_iff {y : Yard} {s : List Int} {x : Int} : canD y s x = true ↔ ∀ m ∈ (deedAt y x).needs, m ∈ s := by simp [canD]
def dcost (y : Yard) (k : Int) : Int := match y.deeds[k.toNat]? with
  | some d => d.cost
  | none => 0
def pcost (y : Yard) (p : List Int) : Int := (p.map (dcost y)).sum
theorem dcost_at {y : Yard} {j : Nat} {d : Deed} (e : y.deeds[j]? = some d) : dcost y (j : Int) = d.cost := by unfold dcost; rw [Int.toNat_natCast, e]
theorem pcost_snoc (y : Yard) (p : List Int) (k : Int) : pcost y (p ++ [k]) = pcost y p + dcost y k := by unfold pcost; rw [List.map_append, List.sum_append]; simp
theorem Way.pc {y : Yard} {c : Int} {p s : List Int} (h : Way y c p s) : c = pcost y p := by
  induction h with
  | nil => rfl
  | step _ e _ ih => rw [pcost_snoc, dcost_at e, ih]
theorem Gone.way {y : Yard} {p : List Int} {sts : List (List Int)} (h : Gone y p sts) : ∀ (i : Nat) s, sts[i]? = some s → Way y (pcost y (p.take i)) (p.take i) s
  | 0, s, e => by
    rw [h.st] at e
    cases e
    exact .nil
  | i + 1, s, e => by
    have hl := h.len
    have hi : i < p.length := by
      have := (List.getElem?_eq_some_iff.mp e).1
      omega
    obtain ⟨j, d, t, a, b, c, hn, f⟩ := h.go i p[i] (List.getElem?_eq_getElem hi)
    rw [f] at e
    cases e
    have w := h.way i t c
    have tk : p.take (i + 1) = p.take i ++ [(j : Int)] := by rw [List.take_succ, List.getElem?_eq_getElem hi, a]; rfl
    rw [tk, pcost_snoc, dcost_at b]
    exact .step w b hn
theorem Gone.inr {y : Yard} (g : GoodY y) {p : List Int} {sts : List (List Int)} (h : Gone y p sts) {i : Nat} {s : List Int} (e : sts[i]? = some s) : InR y.marks.length s := (h.way i s e).inr g
theorem Gone.all {y : Yard} (g : GoodY y) {p : List Int} {sts : List (List Int)} (h : Gone y p sts) {s : List Int} (e : s ∈ sts) : InR y.marks.length s := by
  obtain ⟨i, hi⟩ := List.mem_iff_getElem?.mp e
  exact h.inr g hi
theorem Way.gone {y : Yard} {c : Int} {p s : List Int} (h : Way y c p s) : ∃ sts, Gone y p (sts ++ [s]) := by
  induction h with
  | nil => exact ⟨[], .nil⟩
  | step _ e hn ih =>
    obtain ⟨sts, g⟩ := ih
    exact ⟨_, g.snoc e hn⟩
theorem Gone.same {y : Yard} {p : List Int} {a b : List (List Int)} (h : Gone y p a) (g : Gone y p b) : a = b := by
  have hl : a.length = b.length := by rw [h.len, g.len]
  have key : ∀ i : Nat, a[i]? = b[i]? := by
    intro i
    induction i with
    | zero => rw [h.st, g.st]
    | succ i ih =>
      cases e : p[i]? with
      | none =>
        have := List.getElem?_eq_none_iff.mp e
        rw [List.getElem?_eq_none (by rw [h.len]; omega), List.getElem?_eq_none (by rw [g.len]; omega)]
      | some k =>
        obtain ⟨j, d, s, e1, e2, e3, _, e4⟩ := h.go i k e
        obtain ⟨j', d', s', f1, f2, f3, _, f4⟩ := g.go i k e
        have : j = j' := by omega
        subst this
        rw [e2] at f2
        cases f2
        rw [← ih, e3] at f3
        cases f3
        rw [e4, f4]
  exact List.ext_getElem? key
theorem Way.wished {y : Yard} {c : Int} {p s : List Int} (_ : Way y c p s) : Wished y s ↔ (y.wish.all fun m => decide (m ∈ s)) = true := by simp [Wished]
theorem cutD_take (xs : List D) (k : Nat) : cutD xs none (some (k : Int)) = xs.take k := by
  unfold cutD
  rw [HT.sIx_nat, HT.sIx_none, List.drop_zero, Nat.sub_zero]
  rcases Nat.le_total k xs.length with h | h
  · rw [Nat.min_eq_left h]
  · rw [Nat.min_eq_right h, List.take_of_length_le (Nat.le_refl _), List.take_of_length_le h]
theorem atD_lst {α : Type} (a : List α) (x : α) : atD (a ++ [x]) (-1) = some x := by
  show (if 0 < (a ++ [x]).length then (a ++ [x])[(a ++ [x]).length - 1 - 0]? else none) = _
  simp
/-! ### states found -/
def Reach (y : Yard) (s : List Int) : Prop := ∃ c p, Way y c p s
/-- the states found so far -/
structure Fnd (y : Yard) (fs : List (List Int)) : Prop where
  nd : fs.Nodup
  re : ∀ s ∈ fs, Reach y s
  st : y.start ∈ fs
def FndTo (y : Yard) (fs : List (List Int)) (i : Nat) : Prop := ∀ j s, j < i → fs[j]? = some s → ∀ d ∈ y.deeds, (∀ m ∈ d.needs, m ∈ s) → aft s d ∈ fs
theorem Fnd.few {y : Yard} (g : GoodY y) {fs : List (List Int)} (h : Fnd y fs) : fs.length ≤ 1024 := few_rows g.m2 h.nd fun r hr => by
  obtain ⟨c, p, w⟩ := h.re r hr
  exact w.inr g
theorem Fnd.all {y : Yard} {fs : List (List Int)} (h : Fnd y fs) (c : FndTo y fs fs.length) {s : List Int} (r : Reach y s) : s ∈ fs := by
  obtain ⟨k, p, w⟩ := r
  induction w with
  | nil => exact h.st
  | @step _ _ s k d w e hn ih =>
    obtain ⟨j, hj⟩ := List.mem_iff_getElem?.mp ih
    exact c j s (List.getElem?_eq_some_iff.mp hj).1 hj d (mem_at e) hn
theorem Reach.step {y : Yard} {s : List Int} (r : Reach y s) {d : Deed} (hd : d ∈ y.deeds) (hn : ∀ m ∈ d.needs, m ∈ s) : Reach y (aft s d) := by
  obtain ⟨c, p, w⟩ := r
  obtain ⟨k, hk⟩ := List.mem_iff_getElem?.mp hd
  exact ⟨_, _, .step w hk hn⟩
theorem FndTo.more {y : Yard} {fs : List (List Int)} {i : Nat} (h : FndTo y fs i) (hi : i ≤ fs.length) (a : List Int) : FndTo y (fs ++ [a]) i := fun j s hj e d hd hn => by
  rw [List.getElem?_append_left (by omega)] at e
  exact List.mem_append_left _ (h j s hj e d hd hn)
def kB (fs : List (List Int)) : List (List Int × D) := fs.map fun s => (s, .bool true)
theorem kB_get (fs : List (List Int)) (s : List Int) : (dtGet (kB fs) s).isSome = decide (s ∈ fs) := by
  rw [dtGet_some]
  unfold kB
  rw [List.map_map]
  simp [Function.comp]
theorem kB_put {fs : List (List Int)} {s : List Int} (h : s ∉ fs) : dtPut (kB fs) s (.bool true) = kB (fs ++ [s]) := by
  rw [dtPut_new (by unfold kB; rw [List.map_map]; simpa [Function.comp] using h)]
  unfold kB
  rw [List.map_append]
  rfl
theorem kB_len (fs : List (List Int)) : (kB fs).length = fs.length := by unfold kB; rw [List.length_map]
end K
/-! M23: data without lists; yards are alike. -/
namespace K
open PySem DL L2
theorem noLs_map {α : Type} {f : α → D} : ∀ {xs : List α}, (∀ x ∈ xs, noL (f x) = true) → noLs (xs.map f) = true
  | [], _ => rfl
  | x :: xs, h => by
    rw [List.map_cons, noLs, h x List.mem_cons_self, noLs_map fun y hy => h y (List.mem_cons_of_mem _ hy)]
    rfl
theorem noLs_ints (xs : List Int) : noLs (xs.map PyData.int) = true := noLs_map fun _ _ => rfl
theorem noLs_strs (xs : List Str) : noLs (xs.map PyData.str) = true := noLs_map fun _ _ => rfl
theorem noL_tI (xs : List Int) : noL (tI xs) = true := by
  show noL (.tuple (xs.map .int)) = true
  rw [noL]; exact noLs_ints xs
theorem noLs_tIs (xs : List (List Int)) : noLs (xs.map tI) = true := noLs_map fun x _ => noL_tI x
theorem noL_dD (d : Deed) : noL (dD d) = true := by
  unfold dD
  simp [noL, noLs, noLs_ints]
theorem noL_yD (y : Yard) : noL (yD y) = true := by
  unfold yD
  simp [noL, noLs, noLs_ints, noLs_strs, noLs_map fun (d : Deed) _ => noL_dD d]
theorem noLs_yD (y : Yard) : noLs [yD y] = true := by
  rw [noLs, noL_yD]; rfl
theorem al_tI {n : Nat} {xs : List Int} (h : xs.length ≤ 1000) : Al (n + 2) (tI xs) := .tup (by rw [List.length_map]; exact h) fun d hd => by
  obtain ⟨x, _, rfl⟩ := List.mem_map.mp hd
  exact .int
theorem al_lI {n : Nat} {xs : List Int} (h : xs.length ≤ 1000) : Al (n + 2) (lI xs) := .lst (by rw [List.length_map]; exact h) fun d hd => by
  obtain ⟨x, _, rfl⟩ := List.mem_map.mp hd
  exact .int
theorem al_tIs {n : Nat} {xs : List (List Int)} (h : xs.length ≤ 1000) (h2 : ∀ x ∈ xs, x.length ≤ 1000) : Al (n + 3) (.list (xs.map tI)) := .lst (by rw [List.length_map]; exact h) fun d hd => by
  obtain ⟨x, hx, rfl⟩ := List.mem_map.mp hd
  exact al_tI (h2 x hx)
theorem al_yard {n : Nat} {y : Yard} (g : GoodY y) : Al (n + 5) (yD y) := by
  have gm2 := g.m2
  have gd2 := g.d2
  refine .tup (by simp) fun d hd => ?_
  have hd : d = .tuple (y.marks.map .str) ∨ d = .tuple (y.deeds.map dD) ∨ d = tI y.start ∨ d = tI y.wish := by simpa using hd
  rcases hd with rfl | rfl | rfl | rfl
  · refine .tup (by rw [List.length_map]; omega) fun d hd => ?_
    obtain ⟨x, _, rfl⟩ := List.mem_map.mp hd
    exact .str
  · refine .tup (by rw [List.length_map]; omega) fun d hd => ?_
    obtain ⟨x, hx, rfl⟩ := List.mem_map.mp hd
    obtain ⟨i, e⟩ := List.getElem?_of_mem hx
    have gd := g.dd i x e
    refine .tup (by simp) fun d hd => ?_
    have hd : d = .str x.name ∨ d = tI x.needs ∨ d = tI x.sets ∨ d = tI x.strikes ∨ d = .int x.cost := by simpa using hd
    rcases hd with rfl | rfl | rfl | rfl | rfl
    · exact .str
    · exact al_tI (by have := areMarks_len gd.nd; omega)
    · exact al_tI (by have := areMarks_len gd.st; omega)
    · exact al_tI (by have := areMarks_len gd.sk; omega)
    · exact .int
  · exact al_tI (by have := areMarks_len g.b; omega)
  · exact al_tI (by have := areMarks_len g.w; omega)
end K
/-! M26: a deed left out. -/
namespace K
open PySem DL L2
def dropY (y : Yard) (k : Nat) : Yard := { y with deeds := y.deeds.take k ++ y.deeds.drop (k + 1) }
theorem GoodD.sub {n : Nat} {b b' : List Deed} {d : Deed} (h : GoodD n b d) (s : ∀ x ∈ b', x ∈ b) : GoodD n b' d := ⟨h.nm, fun z => h.fresh (by
  obtain ⟨x, hx, e⟩ := List.mem_map.mp z
  exact List.mem_map.mpr ⟨x, s x hx, e⟩), h.c0, h.c1, h.nd, h.st, h.sk, h.apart⟩
theorem dropY_len {y : Yard} {k : Nat} (h : k < y.deeds.length) : (dropY y k).deeds.length + 1 = y.deeds.length := by
  show (y.deeds.take k ++ y.deeds.drop (k + 1)).length + 1 = _
  rw [List.length_append, List.length_take, List.length_drop]
  omega
theorem goodY_drop {y : Yard} (g : GoodY y) (k : Nat) : GoodY (dropY y k) := by
  refine ⟨g.m1, g.m2, g.mn, ?_, fun i d e => ?_, g.b, g.w⟩
  · show (y.deeds.take k ++ y.deeds.drop (k + 1)).length ≤ 16
    have := g.d2
    rw [List.length_append, List.length_take, List.length_drop]
    omega
  · have e : (y.deeds.take k ++ y.deeds.drop (k + 1))[i]? = some d := e
    show GoodD y.marks.length ((y.deeds.take k ++ y.deeds.drop (k + 1)).take i) d
    have tl : (y.deeds.take k).length = min k y.deeds.length := List.length_take ..
    by_cases h : i < (y.deeds.take k).length
    · rw [List.getElem?_append_left h, List.getElem?_take] at e
      split at e
      · refine (g.dd i d e).sub fun x hx => ?_
        rw [List.take_append_of_le_length (by omega), List.take_take] at hx
        rwa [Nat.min_eq_left (by omega)] at hx
      · cases e
    · rw [List.getElem?_append_right (by omega), List.getElem?_drop] at e
      have hk : k < y.deeds.length := by
        have := (List.getElem?_eq_some_iff.mp e).1
        omega
      have tk : (y.deeds.take k).length = k := by omega
      rw [tk] at e
      have e : y.deeds[i + 1]? = some d := by rw [← e]; congr 1; omega
      refine (g.dd (i + 1) d e).sub fun x hx => ?_
      obtain ⟨j, hj, ex⟩ := List.mem_iff_getElem.mp hx
      have ej : ((y.deeds.take k ++ y.deeds.drop (k + 1)).take i)[j]? = some x := by rw [← ex]; exact List.getElem?_eq_getElem hj
      rw [List.getElem?_take] at ej
      split at ej
      · rename_i hji
        by_cases c : j < k
        · rw [List.getElem?_append_left (by omega), List.getElem?_take, if_pos c] at ej
          exact List.mem_of_getElem? (i := j) (by rw [List.getElem?_take, if_pos (by omega)]; exact ej)
        · rw [List.getElem?_append_right (by omega), List.getElem?_drop, tk] at ej
          have ej : y.deeds[j + 1]? = some x := by rw [← ej]; congr 1; omega
          exact List.mem_of_getElem? (i := j + 1) (by rw [List.getElem?_take, if_pos (by omega)]; exact ej)
      · cases ej
theorem few6 {n : Nat} {xs : List (List Int)} (hn : n ≤ 6) (h : xs.Nodup) (s : ∀ r ∈ xs, InR n r) : xs.length ≤ 64 := by
  have a := len_sub h fun r hr => every_in.mpr (s r hr)
  rw [every_len] at a
  exact Nat.le_trans a (Nat.pow_le_pow_right (n := 2) (by decide) hn)
end K
/-! M27: labels lowered as long as they can be. -/
namespace K
open PySem DL L2
def wBig : Nat := 16 ^ 1024
def valP : List Int → Nat
  | [] => 0
  | k :: p => k.toNat * 16 ^ p.length + valP p
def Fig (p : List Int) : Prop := ∀ k ∈ p, 0 ≤ k ∧ k < 16
theorem Fig.tail {k : Int} {p : List Int} (h : Fig (k :: p)) : Fig p := fun x hx => h x (List.mem_cons_of_mem _ hx)
theorem valP_lt : ∀ {p : List Int}, Fig p → valP p < 16 ^ p.length
  | [], _ => by simp [valP]
  | k :: p, h => by
    have ih := valP_lt h.tail
    have hk := h k List.mem_cons_self
    have h2 : k.toNat * 16 ^ p.length ≤ 15 * 16 ^ p.length := Nat.mul_le_mul_right _ (by omega)
    rw [valP, List.length_cons, Nat.pow_succ]
    generalize 16 ^ p.length = z at *
    generalize k.toNat * z = u at *
    omega
theorem valP_lex : ∀ {p q : List Int}, Fig p → Fig q → p.length = q.length → lexI p q = true → valP p < valP q
  | [], [], _, _, _, h => by cases h
  | [], _ :: _, _, _, e, _ => by cases e
  | _ :: _, [], _, _, e, _ => by cases e
  | x :: p, y :: q, hp, hq, e, h => by
    have e : p.length = q.length := by simpa using e
    rw [lexI] at h
    rw [valP, valP, ← e]
    by_cases z : x = y
    · rw [if_pos z] at h
      have := valP_lex hp.tail hq.tail e h
      rw [z]
      omega
    · rw [if_neg z] at h
      have h := of_decide_eq_true h
      have a := valP_lt hp.tail
      have hx := hp x List.mem_cons_self
      have b : (x.toNat + 1) * 16 ^ p.length ≤ y.toNat * 16 ^ p.length := Nat.mul_le_mul_right _ (by omega)
      rw [Nat.add_mul] at b
      generalize 16 ^ p.length = z at *
      generalize x.toNat * z = u at *
      generalize y.toNat * z = v at *
      omega
def rk (l : Lab) : Nat := (l.1.toNat * 1025 + l.2.length) * wBig + valP l.2
structure FitL (l : Lab) : Prop where
  c : 0 ≤ l.1
  le : l.1 ≤ 101376
  n : l.2.length ≤ 1024
  fig : Fig l.2
theorem FitL.val {l : Lab} (h : FitL l) : valP l.2 < wBig := Nat.lt_of_lt_of_le (valP_lt h.fig) (Nat.pow_le_pow_right (by decide) h.n)
theorem rk_lt {a b : Lab} (ha : FitL a) (hb : FitL b) (h : labLt a b = true) : rk a < rk b := by
  have va := ha.val
  have n1 := ha.n
  have c1 := ha.c
  have c2 := hb.c
  have up : a.1.toNat * 1025 + a.2.length + 1 ≤ b.1.toNat * 1025 + b.2.length → rk a < rk b := fun z => by
    have := Nat.mul_le_mul_right wBig z
    rw [Nat.add_mul] at this
    unfold rk
    generalize (a.1.toNat * 1025 + a.2.length) * wBig = u at *
    generalize (b.1.toNat * 1025 + b.2.length) * wBig = v at *
    generalize wBig = w at *
    omega
  unfold labLt at h
  by_cases e1 : a.1 = b.1
  · rw [if_pos e1] at h
    by_cases e2 : a.2.length = b.2.length
    · rw [if_pos e2] at h
      have := valP_lex ha.fig hb.fig e2 h
      unfold rk
      rw [e1, e2]
      omega
    · rw [if_neg e2] at h
      have h := of_decide_eq_true h
      exact up (by omega)
  · rw [if_neg e1] at h
    have h := of_decide_eq_true h
    exact up (by omega)
def rkTop : Nat := (101376 * 1025 + 1024) * wBig + wBig
theorem rk_top {a : Lab} (ha : FitL a) : rk a < rkTop := by
  have va := ha.val
  have n1 := ha.n
  have c1 := ha.c
  have c2 := ha.le
  have := Nat.mul_le_mul_right wBig (show a.1.toNat * 1025 + a.2.length ≤ 101376 * 1025 + 1024 by omega)
  unfold rk rkTop
  generalize (a.1.toNat * 1025 + a.2.length) * wBig = u at *
  generalize (101376 * 1025 + 1024) * wBig = v at *
  generalize wBig = w at *
  omega
def rkO : Option Lab → Nat
  | none => rkTop
  | some l => rk l
def measL (n : Nat) (ws : List (List Int × Lab)) : Nat := ((every n).map fun s => rkO (mGet ws s)).sum
/-- labels that came about by lowering -/
structure LabI (y : Yard) (ws : List (List Int × Lab)) : Prop where
  nd : (ws.map (·.1)).Nodup
  st : (y.start, ((0, []) : Lab)) ∈ ws
  pl : ∀ s l, (s, l) ∈ ws → ∃ sts, Gone y l.2 (sts ++ [s]) ∧ l.1 = pcost y l.2 ∧ (sts ++ [s]).Nodup ∧ ∀ (i : Nat) t, sts[i]? = some t → ∃ l', (t, l') ∈ ws ∧ leL l' (pcost y (l.2.take i), l.2.take i)
theorem LabI.start {y : Yard} : LabI y [(y.start, ((0, []) : Lab))] := by
  refine ⟨by simp, by simp, fun s l h => ?_⟩
  have h := List.mem_singleton.mp h
  cases h
  exact ⟨[], .nil, rfl, by simp, fun i t e => by simp at e⟩
theorem gone_end {y : Yard} {p : List Int} {sts : List (List Int)} {s : List Int} (g : Gone y p (sts ++ [s])) : sts.length = p.length := by
  have := g.len
  rw [List.length_append, List.length_singleton] at this
  omega
theorem gone_way {y : Yard} {p : List Int} {sts : List (List Int)} {s : List Int} (g : Gone y p (sts ++ [s])) : Way y (pcost y p) p s := by
  have e := gone_end g
  have := g.way p.length s (by rw [← e, List.getElem?_append_right (Nat.le_refl _), Nat.sub_self]; rfl)
  rwa [List.take_length] at this
theorem LabI.way {y : Yard} {ws : List (List Int × Lab)} (h : LabI y ws) {s : List Int} {l : Lab} (m : (s, l) ∈ ws) : Way y l.1 l.2 s := by
  obtain ⟨sts, g, e, _⟩ := h.pl s l m
  rw [e]
  exact gone_way g
theorem way_fig {y : Yard} (g : GoodY y) {c : Int} {p s : List Int} (h : Way y c p s) : Fig p := by
  induction h with
  | nil => intro k hk; cases hk
  | @step _ _ _ k d _ e _ ih =>
    intro x hx
    rcases List.mem_append.mp hx with hx | hx
    · exact ih x hx
    · rw [List.mem_singleton.mp hx]
      have := (List.getElem?_eq_some_iff.mp e).1
      have := g.d2
      omega
theorem LabI.fit {y : Yard} (g : GoodY y) {ws : List (List Int × Lab)} (h : LabI y ws) {s : List Int} {l : Lab} (m : (s, l) ∈ ws) : FitL l ∧ InR y.marks.length s ∧ l.2.length < 1024 := by
  have w := h.way m
  obtain ⟨sts, gn, e, nd, _⟩ := h.pl s l m
  have ge := gone_end gn
  have few := few_rows g.m2 nd fun r hr => gn.all g hr
  rw [List.length_append, List.length_singleton] at few
  have c1 := w.nn g
  have c2 := w.le_cost g
  exact ⟨⟨c1, by omega, by omega, way_fig g w⟩, w.inr g, by omega⟩
theorem LabI.few {y : Yard} (g : GoodY y) {ws : List (List Int × Lab)} (h : LabI y ws) : ws.length ≤ 1024 := by
  rw [← List.length_map (f := (·.1))]
  refine few_rows g.m2 h.nd fun r hr => ?_
  obtain ⟨q, hq, rfl⟩ := List.mem_map.mp hr
  exact (h.fit g hq).2.1
/-- a label is no later than that of a longer plan -/
theorem leL_take {y : Yard} (g : GoodY y) {c : Int} {p s : List Int} (w : Way y c p s) : ∀ i, leL (pcost y (p.take i), p.take i) (pcost y p, p) := by
  induction w with
  | nil => intro i; rw [List.take_nil]; exact leL_refl _
  | @step c p s k d w e hn ih =>
    intro i
    have ec : pcost y (p ++ [(k : Int)]) = pcost y p + d.cost := by rw [pcost_snoc, dcost_at e]
    by_cases z : i ≤ p.length
    · rw [List.take_append_of_le_length z, ec]
      exact leL_trans (ih i) (ext_gt (pcost y p, p) (cost_ok g e).1)
    · rw [List.take_of_length_le (by rw [List.length_append, List.length_singleton]; omega)]
      exact leL_refl _
theorem lt_not {a b : Lab} (h : labLt a b = true) (g : leL b a) : False := by
  unfold leL at g
  rw [h] at g
  cases g
theorem LabI.put {y : Yard} (g : GoodY y) {ws : List (List Int × Lab)} (h : LabI y ws) {s : List Int} {l : Lab} {k : Nat} {d : Deed} (m : (s, l) ∈ ws) (e : y.deeds[k]? = some d) (hn : ∀ m ∈ d.needs, m ∈ s)
    (lt : ∀ l', (aft s d, l') ∈ ws → labLt (ext l (k : Int) d.cost) l' = true) : LabI y (mPut ws (aft s d) (ext l (k : Int) d.cost)) ∧ measL y.marks.length (mPut ws (aft s d) (ext l (k : Int) d.cost)) < measL y.marks.length ws := by
  have nd' := mPut_nodup (k := aft s d) (b := ext l (k : Int) d.cost) h.nd
  have mem : ∀ t l', (t, l') ∈ mPut ws (aft s d) (ext l (k : Int) d.cost) ↔ (t = aft s d ∧ l' = ext l (k : Int) d.cost) ∨ (t ≠ aft s d ∧ (t, l') ∈ ws) := fun t l' => by
    rw [← mGet_is nd', mGet_put]
    by_cases z : t = aft s d
    · rw [if_pos z]
      constructor
      · intro h; exact .inl ⟨z, (Option.some.inj h).symm⟩
      · rintro (h | h)
        · rw [h.2]
        · exact absurd z h.1
    · rw [if_neg z, mGet_is h.nd]
      exact ⟨fun h => .inr ⟨z, h⟩, fun h => h.elim (fun h => absurd h.1 z) (·.2)⟩
  have keep : ∀ t l', (t, l') ∈ ws → ∃ l2, (t, l2) ∈ mPut ws (aft s d) (ext l (k : Int) d.cost) ∧ leL l2 l' := fun t l' h => by
    by_cases z : t = aft s d
    · subst z
      exact ⟨_, (mem _ _).mpr (.inl ⟨rfl, rfl⟩), leL_of (lt l' h)⟩
    · exact ⟨l', (mem _ _).mpr (.inr ⟨z, h⟩), leL_refl _⟩
  have w := h.way m
  have cok := cost_ok g e
  obtain ⟨sts, gn, ec, sd, pre⟩ := h.pl s l m
  have ge := gone_end gn
  have no : aft s d ∉ sts ++ [s] := fun z => by
    obtain ⟨i, hi⟩ := List.mem_iff_getElem?.mp z
    have key : ∃ l', (aft s d, l') ∈ ws ∧ leL l' l := by
      by_cases q : i < sts.length
      · rw [List.getElem?_append_left q] at hi
        obtain ⟨l', a, b⟩ := pre i _ hi
        refine ⟨l', a, leL_trans b ?_⟩
        have := leL_take g w i
        rw [← ec] at this
        exact this
      · have hl := (List.getElem?_eq_some_iff.mp hi).1
        rw [List.length_append, List.length_singleton] at hl
        have q2 : i = sts.length := by omega
        subst q2
        rw [List.getElem?_append_right (Nat.le_refl _), Nat.sub_self] at hi
        have hi : s = aft s d := by simpa using hi
        exact ⟨l, by rw [← hi]; exact m, leL_refl _⟩
    obtain ⟨l', a, b⟩ := key
    exact lt_not (lt l' a) (leL_trans b (ext_gt l cok.1))
  have I' : LabI y (mPut ws (aft s d) (ext l (k : Int) d.cost)) := by
    refine ⟨nd', (mem _ _).mpr (.inr ⟨fun z => ?_, h.st⟩), fun t l' ht => ?_⟩
    · have := lt (0, []) (by rw [← z]; exact h.st)
      have c1 := w.nn g
      unfold labLt ext at this
      simp only [List.length_append, List.length_singleton, List.length_nil] at this
      split at this
      · rw [if_neg (by omega)] at this
        have := of_decide_eq_true this
        omega
      · have := of_decide_eq_true this
        omega
    · rcases (mem t l').mp ht with ⟨rfl, rfl⟩ | ⟨_, ht⟩
      · refine ⟨sts ++ [s], gn.snoc e hn, ?_, ?_, fun i t hi => ?_⟩
        · show l.1 + d.cost = pcost y (l.2 ++ [(k : Int)])
          rw [pcost_snoc, dcost_at e, ec]
        · refine List.nodup_append.mpr ⟨sd, by simp, fun a ha b hb hab => ?_⟩
          rw [List.mem_singleton.mp hb] at hab
          subst hab
          exact no ha
        · have hl := (List.getElem?_eq_some_iff.mp hi).1
          rw [List.length_append, List.length_singleton] at hl
          have tk : (ext l (k : Int) d.cost).2.take i = l.2.take i := List.take_append_of_le_length (by omega)
          rw [tk]
          have key : ∃ l', (t, l') ∈ ws ∧ leL l' (pcost y (l.2.take i), l.2.take i) := by
            by_cases q : i < sts.length
            · rw [List.getElem?_append_left q] at hi
              exact pre i t hi
            · have q2 : i = sts.length := by omega
              subst q2
              rw [List.getElem?_append_right (Nat.le_refl _), Nat.sub_self] at hi
              have hi : s = t := by simpa using hi
              subst hi
              refine ⟨l, m, ?_⟩
              rw [ge, List.take_length, ← ec]
              exact leL_refl _
          obtain ⟨l', a, b⟩ := key
          obtain ⟨l2, a2, b2⟩ := keep t l' a
          exact ⟨l2, a2, leL_trans b2 b⟩
      · obtain ⟨sts', gn', ec', sd', pre'⟩ := h.pl t l' ht
        refine ⟨sts', gn', ec', sd', fun i u hu => ?_⟩
        obtain ⟨l2, a, b⟩ := pre' i u hu
        obtain ⟨l3, a3, b3⟩ := keep u l2 a
        exact ⟨l3, a3, leL_trans b3 b⟩
  have me : (aft s d, ext l (k : Int) d.cost) ∈ mPut ws (aft s d) (ext l (k : Int) d.cost) := (mem _ _).mpr (.inl ⟨rfl, rfl⟩)
  obtain ⟨fe, ie, _⟩ := I'.fit g me
  have step : rkO (mGet (mPut ws (aft s d) (ext l (k : Int) d.cost)) (aft s d)) < rkO (mGet ws (aft s d)) := by
    rw [mGet_put, if_pos rfl]
    cases eo : mGet ws (aft s d) with
    | none => exact rk_top fe
    | some l' =>
      have a := (mGet_is h.nd).mp eo
      exact rk_lt fe (h.fit g a).1 (lt l' a)
  refine ⟨I', sum_lt_of (fun r _ => ?_) ⟨aft s d, every_in.mpr ie, step⟩⟩
  by_cases z : r = aft s d
  · subst z
    exact Nat.le_of_lt step
  · rw [mGet_put, if_neg z]
    exact Nat.le_refl _
/-- the label of what a deed leads to is no later -/
def StandsL (y : Yard) (ws : List (List Int × Lab)) (s : List Int) (k : Nat) : Prop := ∀ l d, (s, l) ∈ ws → y.deeds[k]? = some d → (∀ m ∈ d.needs, m ∈ s) → ∃ l', (aft s d, l') ∈ ws ∧ leL l' (ext l (k : Int) d.cost)
/-- all least labels -/
structure LabF (y : Yard) (ws : List (List Int × Lab)) : Prop where
  nd : (ws.map (·.1)).Nodup
  way : ∀ s l, (s, l) ∈ ws → Way y l.1 l.2 s
  all : ∀ c p s, Way y c p s → ∃ l, (s, l) ∈ ws ∧ leL l (c, p)
theorem LabI.full {y : Yard} {ws : List (List Int × Lab)} (h : LabI y ws) (c : ∀ s ∈ ws.map (·.1), ∀ k, k < y.deeds.length → StandsL y ws s k) : LabF y ws := by
  refine ⟨h.nd, fun s l m => h.way m, fun c' p s w => ?_⟩
  induction w with
  | nil => exact ⟨_, h.st, leL_refl _⟩
  | @step c' p s k d w e hn ih =>
    obtain ⟨l, a, b⟩ := ih
    obtain ⟨l', a', b'⟩ := c s (List.mem_map.mpr ⟨_, a, rfl⟩) k (List.getElem?_eq_some_iff.mp e).1 l d a e hn
    exact ⟨l', a', leL_trans b' (ext_mono (a := l) (b := (c', p)) (k : Int) d.cost b)⟩
theorem labD_none (l : Lab) : labD l ≠ .none := fun z => by cases z
theorem labs_alike (ls : List Lab) : PySem.W.AlikeAll (ls.map labD) := by
  refine ⟨fun x hx z hz => ?_, fun x hx => ?_⟩
  · obtain ⟨a, _, rfl⟩ := List.mem_map.mp hx
    obtain ⟨b, _, rfl⟩ := List.mem_map.mp hz
    exact labD_alike a b
  · obtain ⟨a, _, rfl⟩ := List.mem_map.mp hx
    exact labD_none a
theorem labs_depth : ∀ ls : List Lab, PyData.depthAll (ls.map labD) ≤ 50
  | [] => by simp [PyData.depthAll]
  | l :: ls => by
    have a := labs_depth ls
    have b := labD_depth l
    have b : (labD l).depth ≤ 50 := b
    simp only [List.map_cons, PyData.depthAll]
    omega
def minL (a : Lab) (ls : List Lab) : Lab := ls.foldl (fun a b => if labLt b a then b else a) a
theorem minD_labs : ∀ (ls : List Lab) (a : Lab), PySem.W.minD (labD a) (ls.map labD) = labD (minL a ls)
  | [], a => rfl
  | b :: ls, a => by
    have ih := minD_labs ls (if labLt b a then b else a)
    unfold PySem.W.minD at ih ⊢
    unfold minL
    rw [List.map_cons, List.foldl_cons, List.foldl_cons, labD_lt]
    unfold minL at ih
    rw [← ih]
    congr 1
    split <;> rfl
theorem minL_is : ∀ (ls : List Lab) (a : Lab), minL a ls ∈ a :: ls ∧ ∀ b ∈ a :: ls, leL (minL a ls) b
  | [], a => ⟨by simp [minL], fun b hb => by rw [List.mem_singleton.mp hb]; exact leL_refl _⟩
  | b :: ls, a => by
    obtain ⟨h1, h2⟩ := minL_is ls (if labLt b a then b else a)
    have e : minL a (b :: ls) = minL (if labLt b a then b else a) ls := rfl
    rw [e]
    have hf := h2 _ List.mem_cons_self
    refine ⟨?_, fun c hc => ?_⟩
    · rcases List.mem_cons.mp h1 with z | z
      · rw [z]
        split
        · simp
        · simp
      · exact List.mem_cons_of_mem _ (List.mem_cons_of_mem _ z)
    · rcases List.mem_cons.mp hc with rfl | hc
      · refine leL_trans hf ?_
        split
        · rename_i q; exact leL_of q
        · exact leL_refl _
      · rcases List.mem_cons.mp hc with rfl | hc
        · refine leL_trans hf ?_
          split
          · exact leL_refl _
          · rename_i q; exact (by simpa using q : labLt c a = false)
        · exact h2 c (List.mem_cons_of_mem _ hc)
/-- the labels of states that have the wish -/
def wishL (y : Yard) (ws : List (List Int × Lab)) : List Lab := (ws.filter fun q => y.wish.all fun m => decide (m ∈ q.1)).map (·.2)
theorem wishL_mem {y : Yard} {ws : List (List Int × Lab)} {l : Lab} : l ∈ wishL y ws ↔ ∃ s, (s, l) ∈ ws ∧ Wished y s := by
  unfold wishL
  rw [List.mem_map]
  constructor
  · rintro ⟨q, hq, rfl⟩
    obtain ⟨a, b⟩ := List.mem_filter.mp hq
    exact ⟨q.1, a, by simpa [Wished] using b⟩
  · rintro ⟨s, a, b⟩
    exact ⟨(s, l), List.mem_filter.mpr ⟨a, by simpa [Wished] using b⟩, rfl⟩
def bestL (y : Yard) (ws : List (List Int × Lab)) : Option Lab := match wishL y ws with
  | [] => none
  | a :: ls => some (minL a ls)
theorem bestL_is {y : Yard} {ws : List (List Int × Lab)} (h : LabF y ws) : IsBest y (bestL y ws) := by
  unfold bestL
  cases e : wishL y ws with
  | nil =>
    intro c p s w hw
    obtain ⟨l, a, _⟩ := h.all c p s w
    have : l ∈ wishL y ws := wishL_mem.mpr ⟨s, a, hw⟩
    rw [e] at this
    cases this
  | cons a ls =>
    obtain ⟨h1, h2⟩ := minL_is ls a
    rw [← e] at h1 h2
    obtain ⟨s, m, hw⟩ := wishL_mem.mp h1
    refine ⟨⟨s, h.way s _ m, hw⟩, fun c p t w hw' => ?_⟩
    obtain ⟨l, m', le⟩ := h.all c p t w
    exact leL_trans (h2 l (wishL_mem.mpr ⟨t, m', hw'⟩)) le
end K
namespace K
open PySem PySem.Spec PyProof.Rows L2 DL
local macro_rules | `(tactic| walk_at "nod") => `(tactic| first | rfl | exact noD_tI _ | exact noD_ints _ | exact noD_tIs _ | (simp [noD, noDs, noDs_map, noDs_app, noDs_all]; done))
local macro_rules | `(tactic| walk_at "w") => `(tactic| conv => whnf)
local macro_rules | `(tactic| walk_at "side") => `(tactic| first | rfl | exact True.intro | assumption | exact shal_nil (by walk_at "nod") | exact shal_int (by walk_at "nod") | exact shal_bool (by walk_at "nod") | exact shal_str (by walk_at "nod") | exact shal_nilT (by walk_at "nod") | exact flat_ints _ | exact flat_strs _ | omega | exact le_line (Nat.le_of_ble_eq_true rfl))
local macro_rules | `(tactic| walk_at "lc") => `(tactic| first | exact ⟨rfl, fun _ => ⟨rfl, rfl⟩, fun _ => rfl⟩ | exact ⟨rfl, fun _ => ⟨rfl, rfl⟩, fun z => (by cases z)⟩ | exact ⟨fun _ => ⟨rfl, rfl⟩, fun _ => rfl⟩ | exact ⟨fun _ => ⟨rfl, rfl⟩, fun z => (by cases z)⟩)
local macro_rules | `(tactic| walk_at "lch") => `(tactic| first | exact ⟨by simp [*], fun _ => ⟨rfl, rfl⟩, fun _ => rfl⟩ | exact ⟨by simp [*], fun z => (by cases z), fun _ => rfl⟩ | exact ⟨by simp [*], fun _ => ⟨rfl, rfl⟩, fun z => (by cases z)⟩)
local macro_rules | `(tactic| walk_at "go") => `(tactic| (walk_at "w"; repeat ((first | (refine And.intro ?left ?_; (case left => walk_at "side")) | (refine Br.t ?_) | (refine Br.f ?_)); walk_at "w")))
section
variable {P : Program} {w : World} {K : PySem.W.Frag} {mg : Str → Option Value} {base : Heap}
abbrev s_behind : Stmt := topS 15
abbrev N_behind : List Str := ["state", "deed", "mark"]
theorem sc_behind : FnScope N_behind ["state", "deed"] (defScope s_behind) := ⟨rfl, rfl, rfl, by decide +kernel, rfl, by decide +kernel, by decide +kernel⟩
def sp_behind : SpD := fun Γ Q _ => ∃ (st : List Int) (d : Deed), Γ = [.fz (tI st), .fz (dD d)] ∧ st.length ≤ 30 ∧ d.sets.length ≤ 30 ∧ Q (.fz (tI (aft st d))) Γ
theorem ms_behind : MonoSp sp_behind := fun Γ Q Q' E E' h _ ⟨st, d, e, g1, g2, q⟩ => ⟨st, d, e, g1, g2, h _ _ q⟩
theorem ok_behind {f : Addr} {fd : FuncData} (F : Fun K "behind" "behind" s_behind f fd) (B : Bl mg) : FnOk P w K mg base CX0 1 f fd ["state", "deed"] (liftSp K 2 sp_behind) := by
  refine fnd F sc_behind 2 rfl ms_behind (fun X cdv A outer s H E hX hr => ?_)
  subst hX
  have hu := hu64 hr
  refine ⟨_, (pds_one (pd_ret (pd_callTy cd_tuple rfl B.tuple bt_tuple (pad_cons (pd_sortSt rfl rfl B.sorted (pst_sc [("mark", 2)] rfl sc_behind.nd (pid_seq (pd_fz (pd_op od_add (pdv 0) (pd_ix (pdv 1) pd_int)))) (blkOk_by (N := N_behind) (sc := defScope s_behind) (by decide +kernel)) (fun _ _ _ _ _ => pgc_name 2 sc_behind.nd) (fun _ _ _ _ _ => pbs_one (pb_cmp od_notIn (pdv 2) (pd_ix (pdv 1) pd_int))) (fun _ _ _ _ _ => (pdv 2)))) pad_nil)))), fun Γ Q E' hl hsp => ?_⟩
  obtain ⟨st, d, rfl, l1, l2, q⟩ := hsp
  walk_at "w"
  refine ⟨by simp only [List.length_map]; exact le_line (by omega), ?_⟩
  walk_at "w"
  rw [← List.map_append]
  intro mc
  refine ScR.ints mc (fun m => !decide (m ∈ d.strikes)) id trivial (by rw [List.length_append]; omega) (fun x hx => ?_) (fun ys y1 y2 => ?_)
  · walk_at "go"
    rw [isIn_ints]
    walk_at "lc"
  · have y3 : ∀ k, k ∈ ys ↔ (k ∈ st ∨ k ∈ d.sets) ∧ k ∉ d.strikes := fun k => by rw [y1, List.map_id, List.mem_filter, List.mem_append]; simp
    refine ⟨by rw [List.length_append] at y2; omega, fun ns n1 n2 p => ?_⟩
    walk_at "go"
    rw [aft_eq (st := st) (d := d) n1 fun k => by rw [n2, y3]]
    exact q

end
end K
namespace K
open PySem PySem.Spec PyProof.Rows L2 DL
local macro_rules | `(tactic| walk_at "nod") => `(tactic| first | rfl | exact noD_tI _ | exact noD_ints _ | exact noD_tIs _ | (simp [noD, noDs, noDs_map, noDs_app, noDs_all]; done))
local macro_rules | `(tactic| walk_at "w") => `(tactic| conv => whnf)
local macro_rules | `(tactic| walk_at "side") => `(tactic| first | rfl | exact True.intro | assumption | exact shal_nil (by walk_at "nod") | exact shal_int (by walk_at "nod") | exact shal_bool (by walk_at "nod") | exact shal_str (by walk_at "nod") | exact shal_nilT (by walk_at "nod") | exact flat_ints _ | exact flat_strs _ | omega | exact le_line (Nat.le_of_ble_eq_true rfl))
local macro_rules | `(tactic| walk_at "lc") => `(tactic| first | exact ⟨rfl, fun _ => ⟨rfl, rfl⟩, fun _ => rfl⟩ | exact ⟨rfl, fun _ => ⟨rfl, rfl⟩, fun z => (by cases z)⟩ | exact ⟨fun _ => ⟨rfl, rfl⟩, fun _ => rfl⟩ | exact ⟨fun _ => ⟨rfl, rfl⟩, fun z => (by cases z)⟩)
local macro_rules | `(tactic| walk_at "lch") => `(tactic| first | exact ⟨by simp [*], fun _ => ⟨rfl, rfl⟩, fun _ => rfl⟩ | exact ⟨by simp [*], fun z => (by cases z), fun _ => rfl⟩ | exact ⟨by simp [*], fun _ => ⟨rfl, rfl⟩, fun z => (by cases z)⟩)
local macro_rules | `(tactic| walk_at "go") => `(tactic| (walk_at "w"; repeat ((first | (refine And.intro ?left ?_; (case left => walk_at "side")) | (refine Br.t ?_) | (refine Br.f ?_)); walk_at "w")))
section
variable {P : Program} {w : World} {K : PySem.W.Frag} {mg : Str → Option Value} {base : Heap}
abbrev s_coming : Stmt := topS 18
abbrev N_coming : List Str := ["yard", "most", "found", "known", "at", "deed", "state"]
theorem sc_coming : FnScope N_coming ["yard", "most"] (defScope s_coming) := ⟨rfl, rfl, rfl, by decide +kernel, rfl, by decide +kernel, by decide +kernel⟩
def sp_coming : SpD := fun Γ Q _ => ∃ (y : Yard) (m : Int), Γ = [.fz (yD y), .fz (.int m)] ∧ GoodY y ∧ 1024 ≤ m ∧ ∀ fs : List (List Int), fs.Nodup → (∀ s, s ∈ fs ↔ Reach y s) → Q (.fz (.list (fs.map tI))) Γ
theorem ms_coming : MonoSp sp_coming := fun Γ Q Q' E E' h _ ⟨y, m, e, g1, g2, q⟩ => ⟨y, m, e, g1, g2, fun fs h1 h2 => h _ _ (q fs h1 h2)⟩
theorem ok_coming {f : Addr} {fd : FuncData} (F : Fun K "coming" "coming" s_coming f fd) (B : Bl mg) (D_has : DefOk P w K mg base 1 "has" ["state", "some"] 2 sp_has) (D_behind : DefOk P w K mg base 1 "behind" ["state", "deed"] 2 sp_behind) : FnOk P w K mg base CX0 2 f fd ["yard", "most"] (liftSp K 2 sp_coming) := by
  refine fnd F sc_coming 2 rfl ms_coming (fun X cdv A outer s H E hX hr => ?_)
  subst hX
  have hu := hu64 hr
  refine ⟨_, (pds_cons (pd_set 2 (pd_lst (pad_cons (pd_ix (pdv 0) pd_int) pad_nil)) sc_coming.nd)
 (pds_cons (pd_set 3 (pd_disp1 hu (pd_ix (pdv 0) pd_int) pd_bl) sc_coming.nd)
 (pds_cons (pd_set 4 pd_int sc_coming.nd)
 (pds_cons (pd_while PassesOwn.never (pb_cmp od_lt (pdv 4) (pd_callB cd_len rfl B.len bt_len (pad_cons (pdv 2) pad_nil))) (pds_cons (pd_for PassesOwn.never rfl (pid_seq (pd_ix (pdv 0) pd_int)) (pgd_name 5 sc_coming.nd) (pds_one (pd_if (pb_val (pd_def D_has hr (pad_cons (pd_ix (pdv 2) (pdv 4)) (pad_cons (pd_ix (pdv 5) pd_int) pad_nil)))) (pds_cons (pd_set 6 (pd_def D_behind hr (pad_cons (pd_ix (pdv 2) (pdv 4)) (pad_cons (pdv 5) pad_nil))) sc_coming.nd)
 (pds_one (pd_if (pb_dnin hu (pdv 6) (pdv 3)) (pds_cons (pd_putT 3 hu (pv 3) (pdv 6) pd_bl)
 (pds_one (pd_expr (pd_mt 2 mt_app PySem.F.plainAttrs_list PySem.F.slot_list_append PySem.F.type_list_append (pv 2) (pad_cons (pdv 6) pad_nil))))) pds_nil))) pds_nil)))
 (pds_cons (pd_aug 4 pd_int ip_add sc_coming.nd)
 (pds_one (pd_if (pb_cmp od_gt (pd_callB cd_len rfl B.len bt_len (pad_cons (pdv 2) pad_nil)) (pdv 1)) (pds_one pd_never) pds_nil)))))
 (pds_one (pd_ret (pd_fz (pdv 2)))))))), fun Γ Q E' hl hsp => ?_⟩
  obtain ⟨y, m, rfl, g, hm, q⟩ := hsp
  have hm2 := g.m2
  have sl := in_len (start_in g) hm2
  walk_at "go"
  intro p1
  walk_at "go"
  refine ⟨y.start, .bool true, rfl, rfl, fun p2 => ?_⟩
  walk_at "go"
  intro mw
  refine ⟨fun k Γ => ∃ (fs : List (List Int)) (i : Nat) (c5 c6 : SV), Γ = [.fz (yD y), .fz (.int m), .ow p1 (.lst (fs.map tI)), dT p2 (kB fs), .fz (.int (i : Nat)), c5, c6] ∧ Fnd y fs ∧ FndTo y fs i ∧ i ≤ fs.length ∧ k = 1025 - i,
    ⟨1025, [y.start], 0, _, _, rfl, ⟨by simp, fun s hs => by rw [List.mem_singleton.mp hs]; exact ⟨_, _, .nil⟩, by simp⟩, fun j s hj => absurd hj (Nat.not_lt_zero _), Nat.zero_le _, rfl⟩, ?_⟩
  rintro k Γ ⟨fs, i, c5, c6, rfl, fo, ft, il, rfl⟩
  have fl := fo.few g
  walk_at "go"
  rw [List.length_map]
  refine ⟨fun h => ?_, fun h => ?_⟩
  · have hi : i < fs.length := by have := of_decide_eq_true h; omega
    obtain ⟨s, hs⟩ : ∃ s, fs[i]? = some s := ⟨_, List.getElem?_eq_getElem hi⟩
    have rs := fo.re s (List.mem_of_getElem? hs)
    have is : InR y.marks.length s := by obtain ⟨c, p, w⟩ := rs; exact w.inr g
    have ls := in_len is hm2
    walk_at "go"
    intro mf
    refine ForR.of (fun us _ Γ => ∃ (fs : List (List Int)) (c5 c6 : SV), Γ = [.fz (yD y), .fz (.int m), .ow p1 (.lst (fs.map tI)), dT p2 (kB fs), .fz (.int (i : Nat)), c5, c6] ∧ Fnd y fs ∧ FndTo y fs i ∧ i < fs.length ∧ fs[i]? = some s ∧ ∀ d ∈ us, (∀ m ∈ d.needs, m ∈ s) → aft s d ∈ fs) ⟨fs, _, _, rfl, fo, ft, hi, hs, fun d hd => by cases hd⟩ (fun _ _ _ _ _ => trivial) (fun us x rest Γ eu ih => ?_) (fun Γ ih => ?_) mf
    · obtain ⟨fs, c5, c6, rfl, fo, ft, hi, hs, hu⟩ := ih
      have fl := fo.few g
      have hx : x ∈ y.deeds := by rw [← eu]; simp
      have fx := fitY g x hx
      have lx : x.sets.length ≤ 10 := in_len ⟨fx.st, fx.str⟩ hm2
      have skip : ((∀ m ∈ x.needs, m ∈ s) → aft s x ∈ fs) → ∀ d ∈ us ++ [x], (∀ m ∈ d.needs, m ∈ s) → aft s d ∈ fs := fun h d hd => by
        rcases List.mem_append.mp hd with hd | hd
        · exact hu d hd
        · rw [List.mem_singleton.mp hd]; exact h
      walk_at "go"
      rw [atD_nat, List.getElem?_map, hs]
      walk_at "go"
      refine ⟨s, x.needs, rfl, ?_⟩
      walk_at "go"
      refine ⟨fun h => ?_, fun h => ?_⟩
      · have hn : ∀ m ∈ x.needs, m ∈ s := by simpa using h
        walk_at "go"
        rw [atD_nat, List.getElem?_map, hs]
        walk_at "go"
        refine ⟨s, x, rfl, by omega, by omega, ?_⟩
        walk_at "go"
        refine ⟨aft s x, rfl, ?_⟩
        rw [kB_get]
        walk_at "go"
        refine ⟨fun h => ?_, fun h => ?_⟩
        · have nf : aft s x ∉ fs := by simpa using h
          have fo2 : Fnd y (fs ++ [aft s x]) := ⟨List.nodup_append.mpr ⟨fo.nd, by simp, fun a ha b hb hab => nf (by rw [← List.mem_singleton.mp hb, ← hab]; exact ha)⟩, fun r hr => by
            rcases List.mem_append.mp hr with hr | hr
            · exact fo.re r hr
            · rw [List.mem_singleton.mp hr]; exact rs.step hx hn, List.mem_append_left _ fo.st⟩
          walk_at "go"
          refine ⟨by rw [kB_len]; exact Nat.lt_of_le_of_lt fl (by decide), aft s x, rfl, ?_⟩
          walk_at "go"
          refine ⟨by rw [List.length_map]; exact Nat.lt_of_le_of_lt fl (by decide), ?_⟩
          rw [kB_put nf]
          walk_at "go"
          refine ⟨fs ++ [aft s x], _, _, by rw [List.map_append]; rfl, fo2, ft.more (Nat.le_of_lt hi) _, by rw [List.length_append]; omega, by rw [List.getElem?_append_left hi]; exact hs, fun d hd hn => ?_⟩
          rcases List.mem_append.mp hd with hd | hd
          · exact List.mem_append_left _ (hu d hd hn)
          · rw [List.mem_singleton.mp hd]; simp
        · have nf : aft s x ∈ fs := by simpa using h
          walk_at "go"
          exact ⟨fs, _, _, rfl, fo, ft, hi, hs, skip fun _ => nf⟩
      · walk_at "go"
        exact ⟨fs, _, _, rfl, fo, ft, hi, hs, skip fun hn => absurd hn (by simpa using h)⟩
    · obtain ⟨fs, c5, c6, rfl, fo, ft, hi, hs, hu⟩ := ih
      have fl := fo.few g
      walk_at "go"
      rw [List.length_map, decide_eq_false (by omega)]
      walk_at "go"
      refine ⟨_, ?_, fs, i + 1, _, _, rfl, fo, fun j t hj e d hd hn => ?_, hi, rfl⟩
      · omega
      · rcases Nat.lt_succ_iff_lt_or_eq.mp hj with z | rfl
        · exact ft j t z e d hd hn
        · rw [hs] at e
          cases e
          exact hu d hd hn
  · have hi : fs.length = i := by have := of_decide_eq_false h; omega
    walk_at "go"
    exact q fs fo.nd fun s => ⟨fo.re s, fo.all (by rw [hi]; exact ft)⟩

end
end K
namespace K
open PySem PySem.Spec PyProof.Rows L2 DL
local macro_rules | `(tactic| walk_at "nod") => `(tactic| first | rfl | exact noD_tI _ | exact noD_ints _ | exact noD_tIs _ | (simp [noD, noDs, noDs_map, noDs_app, noDs_all]; done))
local macro_rules | `(tactic| walk_at "w") => `(tactic| conv => whnf)
local macro_rules | `(tactic| walk_at "side") => `(tactic| first | rfl | exact True.intro | assumption | exact shal_nil (by walk_at "nod") | exact shal_int (by walk_at "nod") | exact shal_bool (by walk_at "nod") | exact shal_str (by walk_at "nod") | exact shal_nilT (by walk_at "nod") | exact flat_ints _ | exact flat_strs _ | omega | exact le_line (Nat.le_of_ble_eq_true rfl))
local macro_rules | `(tactic| walk_at "lc") => `(tactic| first | exact ⟨rfl, fun _ => ⟨rfl, rfl⟩, fun _ => rfl⟩ | exact ⟨rfl, fun _ => ⟨rfl, rfl⟩, fun z => (by cases z)⟩ | exact ⟨fun _ => ⟨rfl, rfl⟩, fun _ => rfl⟩ | exact ⟨fun _ => ⟨rfl, rfl⟩, fun z => (by cases z)⟩)
local macro_rules | `(tactic| walk_at "lch") => `(tactic| first | exact ⟨by simp [*], fun _ => ⟨rfl, rfl⟩, fun _ => rfl⟩ | exact ⟨by simp [*], fun z => (by cases z), fun _ => rfl⟩ | exact ⟨by simp [*], fun _ => ⟨rfl, rfl⟩, fun z => (by cases z)⟩)
local macro_rules | `(tactic| walk_at "go") => `(tactic| (walk_at "w"; repeat ((first | (refine And.intro ?left ?_; (case left => walk_at "side")) | (refine Br.t ?_) | (refine Br.f ?_)); walk_at "w")))
section
variable {P : Program} {w : World} {K : PySem.W.Frag} {mg : Str → Option Value} {base : Heap}
abbrev s_least_waiting : Stmt := topS 19
abbrev N_least_waiting : List Str := ["waiting", "best", "state", "label"]
theorem sc_least_waiting : FnScope N_least_waiting ["waiting"] (defScope s_least_waiting) := ⟨rfl, rfl, rfl, by decide +kernel, rfl, by decide +kernel, by decide +kernel⟩
def sp_least_waiting : SpD := fun Γ Q _ => ∃ (p : Addr) (ws : List (List Int × Lab)), Γ = [dT p (eM labD ws)] ∧ ws ≠ [] ∧ ws.length ≤ 1024 ∧ ∀ s l, (s, l) ∈ ws → (∀ t l', (t, l') ∈ ws → leL l l') → Q (.fz (.tuple [labD l, tI s])) Γ
theorem ms_least_waiting : MonoSp sp_least_waiting := fun Γ Q Q' E E' h _ ⟨p, ws, e, g1, g2, q⟩ => ⟨p, ws, e, g1, g2, fun s l h1 h2 => h _ _ (q s l h1 h2)⟩
theorem itD_eM (ws : List (List Int × Lab)) : itD (eM labD ws) = ws.map fun q => PyData.tuple [tI q.1, labD q.2] := by unfold itD eM; rw [List.map_map]; rfl
theorem ok_least_waiting {f : Addr} {fd : FuncData} (F : Fun K "least_waiting" "least_waiting" s_least_waiting f fd) (B : Bl mg) : FnOk P w K mg base CX0 1 f fd ["waiting"] (liftSp K 1 sp_least_waiting) := by
  refine fnd F sc_least_waiting 1 rfl ms_least_waiting (fun X cdv A outer s H E hX hr => ?_)
  subst hX
  have hu := hu64 hr
  refine ⟨_, (pds_cons (pd_set 1 pd_non sc_least_waiting.nd)
 (pds_cons (pd_lock 0 (pd_for PassesOwn.never rfl (pid_itemsT (pdv 0)) (pgd_tup rfl (pgsd_cons (pgd_name 2 sc_least_waiting.nd) (pgsd_cons (pgd_name 3 sc_least_waiting.nd) pgsd_nil))) (pds_one (pd_if (PBW.pb (pbw_or (pb_cmp od_is (pdv 1) pd_non) (pbw_or1 (pb_cmp (od_ltT hu) (pdv 3) (pd_ix (pdv 1) pd_int))))) (pds_one (pd_set 1 (pd_tup (pad_cons (pdv 3) (pad_cons (pdv 2) pad_nil))) sc_least_waiting.nd)) pds_nil))))
 (pds_one (pd_ret (pdv 1))))), fun Γ Q E' hl hsp => ?_⟩
  obtain ⟨p, ws, rfl, hne, hle, q⟩ := hsp
  walk_at "go"
  refine ⟨by rw [eM_len]; exact Nat.le_trans hle (by decide), ?_⟩
  walk_at "w"
  intro mf
  rw [itD_eM]
  refine ForR.of (fun us _ Γ => ∃ (b : Option (List Int × Lab)) (c2 c3 : SV), Γ = [.ow p (.dR (eM labD ws)), .fz (match b with | none => .none | some q => .tuple [labD q.2, tI q.1]), c2, c3] ∧ (b = none ↔ us = []) ∧ ∀ q, b = some q → q ∈ us ∧ ∀ z ∈ us, leL q.2 z.2) ⟨none, _, _, rfl, by simp, fun q e => by cases e⟩ (fun _ _ _ _ _ => trivial) (fun us x rest Γ eu ih => ?_) (fun Γ ih => ?_) mf
  · obtain ⟨b, c2, c3, rfl, h1, h2⟩ := ih
    cases b with
    | none =>
      have hu0 : us = [] := h1.mp rfl
      subst hu0
      walk_at "go"
      exact ⟨some x, _, _, rfl, by simp, fun q e => by cases e; exact ⟨by simp, fun z hz => by rw [List.mem_singleton.mp hz]; exact leL_refl _⟩⟩
    | some b =>
      obtain ⟨m1, m2⟩ := h2 b rfl
      walk_at "go"
      refine ⟨⟨labD_alike _ _, labD_depth _⟩, ?_⟩
      rw [show PyData.tuple [.int x.2.1, .int (x.2.2.length : Int), lI x.2.2] = labD x.2 from rfl, show PyData.tuple [.int b.2.1, .int (b.2.2.length : Int), lI b.2.2] = labD b.2 from rfl, labD_lt]
      refine ⟨fun h => ?_, fun h => ?_⟩
      · walk_at "go"
        refine ⟨some x, _, _, rfl, by simp, fun q e => ?_⟩
        cases e
        refine ⟨by simp, fun z hz => ?_⟩
        rcases List.mem_append.mp hz with hz | hz
        · exact leL_trans (leL_of h) (m2 z hz)
        · rw [List.mem_singleton.mp hz]; exact leL_refl _
      · walk_at "go"
        refine ⟨some b, _, _, rfl, by simp, fun q e => ?_⟩
        cases e
        refine ⟨List.mem_append_left _ m1, fun z hz => ?_⟩
        rcases List.mem_append.mp hz with hz | hz
        · exact m2 z hz
        · rw [List.mem_singleton.mp hz]; exact h
  · obtain ⟨b, c2, c3, rfl, h1, h2⟩ := ih
    cases b with
    | none => exact absurd (h1.mp rfl) hne
    | some b =>
      obtain ⟨m1, m2⟩ := h2 b rfl
      walk_at "go"
      exact back_ow (q b.1 b.2 m1 fun t l' h => m2 (t, l') h)

end
end K
namespace K
open PySem PySem.Spec PyProof.Rows L2 DL
local macro_rules | `(tactic| walk_at "nod") => `(tactic| first | rfl | exact noD_tI _ | exact noD_ints _ | exact noD_tIs _ | (simp [noD, noDs, noDs_map, noDs_app, noDs_all]; done))
local macro_rules | `(tactic| walk_at "w") => `(tactic| conv => whnf)
local macro_rules | `(tactic| walk_at "side") => `(tactic| first | rfl | exact True.intro | assumption | exact shal_nil (by walk_at "nod") | exact shal_int (by walk_at "nod") | exact shal_bool (by walk_at "nod") | exact shal_str (by walk_at "nod") | exact shal_nilT (by walk_at "nod") | exact flat_ints _ | exact flat_strs _ | omega | exact le_line (Nat.le_of_ble_eq_true rfl))
local macro_rules | `(tactic| walk_at "lc") => `(tactic| first | exact ⟨rfl, fun _ => ⟨rfl, rfl⟩, fun _ => rfl⟩ | exact ⟨rfl, fun _ => ⟨rfl, rfl⟩, fun z => (by cases z)⟩ | exact ⟨fun _ => ⟨rfl, rfl⟩, fun _ => rfl⟩ | exact ⟨fun _ => ⟨rfl, rfl⟩, fun z => (by cases z)⟩)
local macro_rules | `(tactic| walk_at "lch") => `(tactic| first | exact ⟨by simp [*], fun _ => ⟨rfl, rfl⟩, fun _ => rfl⟩ | exact ⟨by simp [*], fun z => (by cases z), fun _ => rfl⟩ | exact ⟨by simp [*], fun _ => ⟨rfl, rfl⟩, fun z => (by cases z)⟩)
local macro_rules | `(tactic| walk_at "go") => `(tactic| (walk_at "w"; repeat ((first | (refine And.intro ?left ?_; (case left => walk_at "side")) | (refine Br.t ?_) | (refine Br.f ?_)); walk_at "w")))
section
variable {P : Program} {w : World} {K : PySem.W.Frag} {mg : Str → Option Value} {base : Heap}
abbrev s_cheapest : Stmt := topS 20
abbrev N_cheapest : List Str := ["yard", "most", "waiting", "done", "label", "state", "number", "deed", "other", "found"]
theorem sc_cheapest : FnScope N_cheapest ["yard", "most"] (defScope s_cheapest) := ⟨rfl, rfl, rfl, by decide +kernel, rfl, by decide +kernel, by decide +kernel⟩
theorem labD_ext (l : Lab) (k c : Int) : PyData.tuple [.int (l.1 + c), .int ((l.2.length : Int) + 1), .list (l.2.map PyData.int ++ [.int k])] = labD (ext l k c) := by
  unfold labD ext
  simp
def sp_cheapest : SpD := fun Γ Q _ => ∃ (y : Yard) (m : Int), Γ = [.fz (yD y), .fz (.int m)] ∧ GoodY y ∧ 1024 ≤ m ∧ ∀ r : Option Lab, IsBest y r → (∀ l, r = some l → l.2.length ≤ 1024) → Q (.fz (bestD r)) Γ
theorem ms_cheapest : MonoSp sp_cheapest := fun Γ Q Q' E E' h _ ⟨y, m, e, g1, g2, q⟩ => ⟨y, m, e, g1, g2, fun r h1 h2 => h _ _ (q r h1 h2)⟩
theorem ok_cheapest {f : Addr} {fd : FuncData} (F : Fun K "cheapest" "cheapest" s_cheapest f fd) (B : Bl mg) (D_need_yard : DefOk P w K mg base 3 "need_yard" ["yard"] 1 sp_need) (D_coming : DefOk P w K mg base 2 "coming" ["yard", "most"] 2 sp_coming)
    (D_least_waiting : DefOk P w K mg base 1 "least_waiting" ["waiting"] 1 sp_least_waiting) (D_has : DefOk P w K mg base 1 "has" ["state", "some"] 2 sp_has) (D_behind : DefOk P w K mg base 1 "behind" ["state", "deed"] 2 sp_behind) : FnOk P w K mg base CX0 4 f fd ["yard", "most"] (liftSp K 2 sp_cheapest) := by
  refine fnd F sc_cheapest 2 rfl ms_cheapest (fun X cdv A outer s H E hX hr => ?_)
  subst hX
  have hu := hu64 hr
  refine ⟨_, (pds_cons (pd_expr (pd_def D_need_yard hr (pad_cons (pdv 0) pad_nil)))
 (pds_cons (pd_expr (pd_def D_coming hr (pad_cons (pdv 0) (pad_cons (pdv 1) pad_nil))))
 (pds_cons (pd_set 2 (pd_disp1 hu (pd_ix (pdv 0) pd_int) (pd_tup (pad_cons pd_int (pad_cons pd_int (pad_cons (pd_fz (pd_lst pad_nil)) pad_nil))))) sc_cheapest.nd)
 (pds_cons (pd_set 3 pd_dictT sc_cheapest.nd)
 (pds_cons (pd_while PassesOwn.never (pb_dne hu (pdv 2)) (pds_cons (pd_asg (pd_def D_least_waiting hr (pad_cons (pdv 2) pad_nil)) (pgd_tup rfl (pgsd_cons (pgd_name 4 sc_cheapest.nd) (pgsd_cons (pgd_name 5 sc_cheapest.nd) pgsd_nil))))
 (pds_cons (pd_if (pb_val (pd_def D_has hr (pad_cons (pdv 5) (pad_cons (pd_ix (pdv 0) pd_int) pad_nil)))) (pds_one (pd_ret (pd_tup (pad_cons (pd_ix (pdv 4) pd_int) (pad_cons (pd_ix (pdv 4) pd_int) pad_nil))))) pds_nil)
 (pds_cons (pd_expr (pd_mt 2 (mt_popT hu) PySem.F.plainAttrs_dict PySem.F.slot_dict_pop PySem.F.type_dict_pop (pv 2) (pad_cons (pdv 5) pad_nil)))
 (pds_cons (pd_putT 3 hu (pv 3) (pdv 5) pd_bl)
 (pds_one (pd_for PassesOwn.never rfl (pid_enumT rfl B.enumerate (pd_ix (pdv 0) pd_int)) (pgd_tup rfl (pgsd_cons (pgd_name 6 sc_cheapest.nd) (pgsd_cons (pgd_name 7 sc_cheapest.nd) pgsd_nil))) (pds_one (pd_if (pb_val (pd_def D_has hr (pad_cons (pdv 5) (pad_cons (pd_ix (pdv 7) pd_int) pad_nil)))) (pds_cons (pd_set 8 (pd_def D_behind hr (pad_cons (pdv 5) (pad_cons (pdv 7) pad_nil))) sc_cheapest.nd)
 (pds_cons (pd_set 9 (pd_tup (pad_cons (pd_fz (pd_op od_add (pd_ix (pdv 4) pd_int) (pd_ix (pdv 7) pd_int))) (pad_cons (pd_op od_add (pd_ix (pdv 4) pd_int) pd_int) (pad_cons (pd_fz (pd_op od_add (pd_ix (pdv 4) pd_int) (pd_lst (pad_cons (pdv 6) pad_nil)))) pad_nil)))) sc_cheapest.nd)
 (pds_one (pd_if (PBW.pb (pbw_and (pb_dnin hu (pdv 8) (pdv 3)) (pbw_and1 (PBW.pb (pbw_or (pb_dnin hu (pdv 8) (pdv 2)) (pbw_or1 (pb_cmp (od_ltT hu) (pdv 9) (pd_dget hu (pdv 2) (pdv 8))))))))) (pds_one (pd_putT 2 hu (pv 2) (pdv 8) (pdv 9))) pds_nil)))) pds_nil)))))))))
 (pds_one (pd_ret pd_non))))))), fun Γ Q E' hl hsp => ?_⟩
  obtain ⟨y, m, rfl, g, hm, q⟩ := hsp
  have hm2 := g.m2
  walk_at "go"
  refine ⟨y, rfl, g, ?_⟩
  walk_at "go"
  refine ⟨y, m, rfl, g, hm, fun fs _ _ => ?_⟩
  walk_at "go"
  intro p0
  walk_at "go"
  refine ⟨y.start, _, rfl, rfl, fun p2 => ?_⟩
  walk_at "go"
  intro p3
  walk_at "go"
  intro mw
  refine ⟨fun k Γ => ∃ (ws ds : List (List Int × Lab)) (c4 c5 c6 c7 c8 c9 : SV), Γ = [.fz (yD y), .fz (.int m), dT p2 (eM labD ws), dT p3 (kB (ds.map (·.1))), c4, c5, c6, c7, c8, c9] ∧ Dij y ws ds ∧ Front y ws ds none ∧ k = 1025 - ds.length,
    ⟨1025, [(y.start, (0, []))], [], _, _, _, _, _, _, rfl, dij_start, front_start, rfl⟩, ?_⟩
  rintro k Γ ⟨ws, ds, c4, c5, c6, c7, c8, c9, rfl, D, F, rfl⟩
  obtain ⟨wl, dl⟩ := dij_few g D
  cases hws : ws with
  | nil =>
    subst hws
    walk_at "go"
    exact q none (dij_none g D F) (fun l e => by cases e)
  | cons w0 ws0 =>
    have hne : ws ≠ [] := by rw [hws]; exact List.cons_ne_nil _ _
    rw [← hws]
    have hne2 : eM labD ws ≠ [] := by unfold eM; simpa using hne
    clear hws
    walk_at "go"
    rw [decide_eq_false hne2]
    walk_at "go"
    refine ⟨p2, ws, rfl, hne, wl, fun s l hs hl => ?_⟩
    have W := D.way s l hs
    have is := W.inr g
    have ls := in_len is hm2
    walk_at "go"
    refine ⟨s, y.wish, rfl, ?_⟩
    walk_at "go"
    refine ⟨fun h => ?_, fun h => ?_⟩
    · walk_at "go"
      exact q (some l) ⟨⟨s, W, by simpa [Wished] using h⟩, fun c p t w' hw => (least_is g D F hs hl).2 c p t w' hw⟩ (fun l' e => by cases e; exact Nat.le_trans (D.len s l hs) dl)
    · have nw : ¬ Wished y s := by
        intro z
        have : (y.wish.all fun m => decide (m ∈ s)) = true := by simpa [Wished] using z
        rw [this] at h
        cases h
      obtain ⟨D1, F1⟩ := dij_pop g D F hs hl nw
      have sn : s ∉ ds.map (·.1) := D.ap s (List.mem_map.mpr ⟨_, hs, rfl⟩)
      have ll := D.len s l hs
      walk_at "go"
      refine ⟨s, labD l, rfl, by rw [eM_get, (mGet_is D.nw).mpr hs]; rfl, ?_⟩
      rw [eM_drop]
      walk_at "go"
      refine ⟨by rw [kB_len, List.length_map]; exact Nat.lt_of_le_of_lt dl (by decide), s, rfl, ?_⟩
      rw [kB_put sn, show ds.map (·.1) ++ [s] = (ds ++ [(s, l)]).map (·.1) by rw [List.map_append]; rfl]
      walk_at "go"
      intro mf
      have hsd : (s, l) ∈ ds ++ [(s, l)] := by simp
      have hll : l.2.length < (ds ++ [(s, l)]).length := by rw [List.length_append]; simp only [List.length_singleton]; omega
      refine ForR.ix (fun i Γ => ∃ (ws' : List (List Int × Lab)) (c6 c7 c8 c9 : SV), Γ = [.fz (yD y), .fz (.int m), dT p2 (eM labD ws'), dT p3 (kB ((ds ++ [(s, l)]).map (·.1))), .fz (labD l), .fz (tI s), c6, c7, c8, c9] ∧ Dij y ws' (ds ++ [(s, l)]) ∧ Front y ws' (ds ++ [(s, l)]) (some (s, i)))
        ⟨_, _, _, _, _, rfl, D1, F1⟩ (fun _ _ _ _ => trivial) (fun i d Γ ed hi => ?_) (fun Γ hi => ?_)
      · obtain ⟨ws', c6, c7, c8, c9, rfl, D2, F2⟩ := hi
        obtain ⟨d', e1, rfl⟩ := enum0 ed
        obtain ⟨z, e2, rfl⟩ := map_at e1
        have fz := fitY g z (mem_at e2)
        have lz : z.sets.length ≤ 10 := in_len ⟨fz.st, fz.str⟩ hm2
        have wl' := (dij_few g D2).1
        walk_at "go"
        refine ⟨s, z.needs, rfl, ?_⟩
        walk_at "go"
        refine ⟨fun h => ?_, fun h => ?_⟩
        · have hn : ∀ m ∈ z.needs, m ∈ s := by simpa using h
          walk_at "go"
          refine ⟨s, z, rfl, by omega, by omega, ?_⟩
          walk_at "go"
          intro p7
          walk_at "go"
          have dl' := (dij_few g D2).2
          refine ⟨by simp only [List.length_map, List.length_singleton]; exact Nat.le_trans (show l.2.length + 1 ≤ 1025 by omega) (by decide), fun p8 => ?_⟩
          walk_at "go"
          rw [labD_ext]
          refine ⟨aft s z, rfl, ?_⟩
          rw [kB_get]
          walk_at "go"
          refine ⟨fun h => ?_, fun h => ?_⟩
          · have n1 : aft s z ∉ (ds ++ [(s, l)]).map (·.1) := by simpa using h
            walk_at "go"
            refine ⟨aft s z, rfl, ?_⟩
            rw [eM_get, Option.isSome_map]
            have put : (∀ l', (aft s z, l') ∈ ws' → leL (ext l (i : Int) z.cost) l') → ∃ (ws'' : List (List Int × Lab)) (c6 c7 c8 c9 : SV), [SV.fz (yD y), .fz (.int m), dT p2 (dtPut (eM labD ws') (aft s z) (labD (ext l (i : Int) z.cost))), dT p3 (kB ((ds ++ [(s, l)]).map (·.1))), .fz (labD l), .fz (tI s), .fz (.int (i : Nat)), .fz (dD z), .fz (tI (aft s z)), .fz (labD (ext l (i : Int) z.cost))] = [.fz (yD y), .fz (.int m), dT p2 (eM labD ws''), dT p3 (kB ((ds ++ [(s, l)]).map (·.1))), .fz (labD l), .fz (tI s), c6, c7, c8, c9] ∧ Dij y ws'' (ds ++ [(s, l)]) ∧ Front y ws'' (ds ++ [(s, l)]) (some (s, i + 1)) := fun h => by
              obtain ⟨a, b⟩ := dij_put g D2 F2 hsd hll e2 hn n1 h
              rw [eM_put]
              exact ⟨_, _, _, _, _, rfl, a, b⟩
            cases eo : mGet ws' (aft s z) with
            | none =>
              have no := mGet_none.mp eo
              walk_at "go"
              refine ⟨by rw [eM_len]; exact Nat.lt_of_le_of_lt wl' (by decide), aft s z, rfl, ?_⟩
              walk_at "go"
              exact put fun l' h => absurd (List.mem_map.mpr ⟨_, h, rfl⟩) no
            | some lo =>
              have mo := (mGet_is D2.nw).mp eo
              walk_at "go"
              refine ⟨aft s z, labD lo, rfl, by rw [eM_get, eo]; rfl, ?_⟩
              walk_at "go"
              refine ⟨⟨labD_alike _ _, labD_depth _⟩, ?_⟩
              rw [show PyData.tuple [.int (ext l (i : Int) z.cost).1, .int ((ext l (i : Int) z.cost).2.length : Int), lI (ext l (i : Int) z.cost).2] = labD (ext l (i : Int) z.cost) from rfl, show PyData.tuple [.int lo.1, .int (lo.2.length : Int), lI lo.2] = labD lo from rfl, labD_lt]
              refine ⟨fun h => ?_, fun h => ?_⟩
              · walk_at "go"
                refine ⟨by rw [eM_len]; exact Nat.lt_of_le_of_lt wl' (by decide), aft s z, rfl, ?_⟩
                walk_at "go"
                refine put fun l' hl' => ?_
                have : l' = lo := by
                  have a := (mGet_is D2.nw).mpr hl'
                  rw [eo] at a
                  exact (Option.some.inj a).symm
                rw [this]
                exact leL_of h
              · walk_at "go"
                exact ⟨ws', _, _, _, _, rfl, D2, front_skip F2 D2.nd hsd e2 fun _ => .inr ⟨lo, mo, h⟩⟩
          · have n1 : aft s z ∈ (ds ++ [(s, l)]).map (·.1) := by simpa using h
            walk_at "go"
            exact ⟨ws', _, _, _, _, rfl, D2, front_skip F2 D2.nd hsd e2 fun _ => .inl n1⟩
        · have hn : ¬ ∀ m ∈ z.needs, m ∈ s := by simpa using h
          walk_at "go"
          exact ⟨ws', _, _, _, _, rfl, D2, front_skip F2 D2.nd hsd e2 fun h => absurd h hn⟩
      · obtain ⟨ws', c6, c7, c8, c9, rfl, D2, F2⟩ := hi
        have F3 := front_done F2 (by rw [enumD_len, List.length_map]; exact Nat.le_refl _)
        have dl' := (dij_few g D2).2
        walk_at "go"
        refine ⟨_, ?_, ws', ds ++ [(s, l)], _, _, _, _, _, _, rfl, D2, F3, rfl⟩
        rw [List.length_append] at dl' ⊢
        simp only [List.length_singleton] at dl' ⊢
        omega

end
end K
namespace K
open PySem PySem.Spec PyProof.Rows L2 DL
local macro_rules | `(tactic| walk_at "nod") => `(tactic| first | rfl | exact noD_tI _ | exact noD_ints _ | exact noD_tIs _ | (simp [noD, noDs, noDs_map, noDs_app, noDs_all]; done))
local macro_rules | `(tactic| walk_at "w") => `(tactic| conv => whnf)
local macro_rules | `(tactic| walk_at "side") => `(tactic| first | rfl | exact True.intro | assumption | exact shal_nil (by walk_at "nod") | exact shal_int (by walk_at "nod") | exact shal_bool (by walk_at "nod") | exact shal_str (by walk_at "nod") | exact shal_nilT (by walk_at "nod") | exact flat_ints _ | exact flat_strs _ | omega | exact le_line (Nat.le_of_ble_eq_true rfl))
local macro_rules | `(tactic| walk_at "lc") => `(tactic| first | exact ⟨rfl, fun _ => ⟨rfl, rfl⟩, fun _ => rfl⟩ | exact ⟨rfl, fun _ => ⟨rfl, rfl⟩, fun z => (by cases z)⟩ | exact ⟨fun _ => ⟨rfl, rfl⟩, fun _ => rfl⟩ | exact ⟨fun _ => ⟨rfl, rfl⟩, fun z => (by cases z)⟩)
local macro_rules | `(tactic| walk_at "lch") => `(tactic| first | exact ⟨by simp [*], fun _ => ⟨rfl, rfl⟩, fun _ => rfl⟩ | exact ⟨by simp [*], fun z => (by cases z), fun _ => rfl⟩ | exact ⟨by simp [*], fun _ => ⟨rfl, rfl⟩, fun z => (by cases z)⟩)
local macro_rules | `(tactic| walk_at "go") => `(tactic| (walk_at "w"; repeat ((first | (refine And.intro ?left ?_; (case left => walk_at "side")) | (refine Br.t ?_) | (refine Br.f ?_)); walk_at "w")))
section
variable {P : Program} {w : World} {K : PySem.W.Frag} {mg : Str → Option Value} {base : Heap}
abbrev s__law_after : Stmt := topS 32
abbrev N__law_after : List Str := ["_law_state", "_law_deed", "_law_stay", "_law_mark"]
theorem sc__law_after : FnScope N__law_after ["_law_state", "_law_deed"] (defScope s__law_after) := ⟨rfl, rfl, rfl, by decide +kernel, rfl, by decide +kernel, by decide +kernel⟩
def sp_lafter : SpD := fun Γ Q _ => ∃ (st : List Int) (d : Deed), Γ = [.fz (tI st), .fz (dD d)] ∧ st.Pairwise (· < ·) ∧ st.length ≤ 100 ∧ d.sets.length ≤ 100 ∧ d.sets.Pairwise (· < ·) ∧ (∀ m ∈ d.sets, m ∉ d.strikes) ∧ Q (.fz (tI (aft st d))) Γ
theorem ms_lafter : MonoSp sp_lafter := fun Γ Q Q' E E' h _ ⟨st, d, e, g1, g2, g3, g4, g5, q⟩ => ⟨st, d, e, g1, g2, g3, g4, g5, h _ _ q⟩
theorem ok_lafter {f : Addr} {fd : FuncData} (F : Fun K "_law_after" "_law_after" s__law_after f fd) (B : Bl mg) : FnOk P w K mg base CX0 1 f fd ["_law_state", "_law_deed"] (liftSp K 2 sp_lafter) := by
  refine fnd F sc__law_after 2 rfl ms_lafter (fun X cdv A outer s H E hX hr => ?_)
  subst hX
  have hu := hu64 hr
  refine ⟨_, (pds_cons (pd_sfz 2 (pd_setLc 2 [("_law_mark", 3)] rfl sc__law_after.nd (pid_seq (pdv 0)) (blkOk_by (N := N__law_after) (sc := defScope s__law_after) (by decide +kernel)) (fun _ _ _ _ _ => pgc_name 3 sc__law_after.nd) (fun _ _ _ _ _ => pbs_one (PBW.pb (pbw_and (pb_cmp od_notIn (pdv 3) (pd_ix (pdv 1) pd_int)) (pbw_and1 (pb_cmp od_notIn (pdv 3) (pd_ix (pdv 1) pd_int)))))) (fun _ _ _ _ _ => (pdv 3))))
 (pds_one (pd_ret (pd_callTy cd_tuple rfl B.tuple bt_tuple (pad_cons (pd_callB cd_sortI rfl B.sorted bt_sorted (pad_cons (pd_op od_add (pdv 2) (pd_callTy cd_list rfl B.list bt_list (pad_cons (pd_ix (pdv 1) pd_int) pad_nil))) pad_nil)) pad_nil))))), fun Γ Q E' hl hsp => ?_⟩
  obtain ⟨st, d, rfl, u, l1, l2, su, ap, q⟩ := hsp
  walk_at "w"
  intro mc
  refine LcR.ints mc (fun m => !decide (m ∈ d.strikes) && !decide (m ∈ d.sets)) .int trivial (fun x hx => ?_) (fun a => ?_)
  · walk_at "go"
    rw [isIn_ints]
    refine ⟨fun h => ?_, fun h => ?_⟩
    · have h : x ∉ d.strikes := by simpa using h
      walk_at "go"
      rw [isIn_ints]
      walk_at "lch"
    · have h : x ∈ d.strikes := by simpa using h
      walk_at "go"
      walk_at "lch"
  · have fl := List.length_filter_le (fun m => !decide (m ∈ d.strikes) && !decide (m ∈ d.sets)) st
    walk_at "go"
    intro p2
    walk_at "w"
    refine ⟨by rw [List.length_map, List.length_map]; exact le_line (by omega), fun p3 => ?_⟩
    rw [← List.map_append]
    walk_at "w"
    refine ⟨_, rfl, fun ys y1 y2 p4 => ?_⟩
    walk_at "go"
    have nd : ((st.filter fun m => !decide (m ∈ d.strikes) && !decide (m ∈ d.sets)) ++ d.sets).Nodup := List.nodup_append.mpr ⟨(nodup_up u).sublist List.filter_sublist, nodup_up su, fun a ha b hb hab => by
      subst hab
      simp [hb] at ha⟩
    rw [aft_eq (st := st) (d := d) (up_of y2 (y1.nodup_iff.mpr nd)) (fun k => by
      rw [y1.mem_iff, List.mem_append, List.mem_filter]
      have := ap k
      by_cases h1 : k ∈ d.sets <;> by_cases h2 : k ∈ d.strikes <;> simp [h1, h2] at * )]
    exact q

end
end K
namespace K
open PySem PySem.Spec PyProof.Rows L2 DL
local macro_rules | `(tactic| walk_at "nod") => `(tactic| first | rfl | exact noD_tI _ | exact noD_ints _ | exact noD_tIs _ | (simp [noD, noDs, noDs_map, noDs_app, noDs_all]; done))
local macro_rules | `(tactic| walk_at "w") => `(tactic| conv => whnf)
local macro_rules | `(tactic| walk_at "side") => `(tactic| first | rfl | exact True.intro | assumption | exact shal_nil (by walk_at "nod") | exact shal_int (by walk_at "nod") | exact shal_bool (by walk_at "nod") | exact shal_str (by walk_at "nod") | exact shal_nilT (by walk_at "nod") | exact flat_ints _ | exact flat_strs _ | omega | exact le_line (Nat.le_of_ble_eq_true rfl))
local macro_rules | `(tactic| walk_at "lc") => `(tactic| first | exact ⟨rfl, fun _ => ⟨rfl, rfl⟩, fun _ => rfl⟩ | exact ⟨rfl, fun _ => ⟨rfl, rfl⟩, fun z => (by cases z)⟩ | exact ⟨fun _ => ⟨rfl, rfl⟩, fun _ => rfl⟩ | exact ⟨fun _ => ⟨rfl, rfl⟩, fun z => (by cases z)⟩)
local macro_rules | `(tactic| walk_at "lch") => `(tactic| first | exact ⟨by simp [*], fun _ => ⟨rfl, rfl⟩, fun _ => rfl⟩ | exact ⟨by simp [*], fun z => (by cases z), fun _ => rfl⟩ | exact ⟨by simp [*], fun _ => ⟨rfl, rfl⟩, fun z => (by cases z)⟩)
local macro_rules | `(tactic| walk_at "go") => `(tactic| (walk_at "w"; repeat ((first | (refine And.intro ?left ?_; (case left => walk_at "side")) | (refine Br.t ?_) | (refine Br.f ?_)); walk_at "w")))
section
variable {P : Program} {w : World} {K : PySem.W.Frag} {mg : Str → Option Value} {base : Heap}
abbrev s__law_labels : Stmt := topS 33
abbrev N__law_labels : List Str := ["_law_t", "_law_labels_here", "_law_goes", "_law_state", "_law_k", "_law_deed", "_law_other", "_law_cost", "_law_many", "_law_plan", "_law_label"]
theorem sc__law_labels : FnScope N__law_labels ["_law_t"] (defScope s__law_labels) := ⟨rfl, rfl, rfl, by decide +kernel, rfl, by decide +kernel, by decide +kernel⟩
def sp_llabels : SpD := fun Γ Q _ => ∃ (y : Yard), Γ = [.fz (yD y)] ∧ GoodY y ∧ ∀ (p : Addr) (ws : List (List Int × Lab)), LabI y ws → LabF y ws → Q (dT p (eM labD ws)) Γ
theorem ms_llabels : MonoSp sp_llabels := fun Γ Q Q' E E' h _ ⟨y, e, g1, q⟩ => ⟨y, e, g1, fun p ws h1 h2 => h _ _ (q p ws h1 h2)⟩
theorem ok_llabels {f : Addr} {fd : FuncData} (F : Fun K "_law_labels" "_law_labels" s__law_labels f fd) (B : Bl mg) (D__law_has : DefOk P w K mg base 1 "_law_has" ["_law_state", "_law_some_here"] 2 sp_lhas) (D__law_after : DefOk P w K mg base 1 "_law_after" ["_law_state", "_law_deed"] 2 sp_lafter) : FnOk P w K mg base CX0 2 f fd ["_law_t"] (liftSp K 1 sp_llabels) := by
  refine fnd F sc__law_labels 1 rfl ms_llabels (fun X cdv A outer s H E hX hr => ?_)
  subst hX
  have hu := hu64 hr
  refine ⟨_, (pds_cons (pd_set 1 (pd_disp1 hu (pd_ix (pdv 0) pd_int) (pd_tup (pad_cons pd_int (pad_cons pd_int (pad_cons (pd_fz (pd_lst pad_nil)) pad_nil))))) sc__law_labels.nd)
 (pds_cons (pd_set 2 pd_bl sc__law_labels.nd)
 (pds_cons (pd_while PassesOwn.never (pb_val (pdv 2)) (pds_cons (pd_set 2 pd_bl sc__law_labels.nd)
 (pds_one (pd_for PassesOwn.never rfl (pid_seq (pd_fz (pd_callTyT (ct_list rfl) rfl B.list bt_list (pdv 1)))) (pgd_name 3 sc__law_labels.nd) (pds_one (pd_for PassesOwn.never rfl (pid_rg1 rfl B.range (pd_callB cd_len rfl B.len bt_len (pad_cons (pd_ix (pdv 0) pd_int) pad_nil))) (pgd_name 4 sc__law_labels.nd) (pds_cons (pd_set 5 (pd_ix (pd_ix (pdv 0) pd_int) (pdv 4)) sc__law_labels.nd)
 (pds_one (pd_if (pb_val (pd_def D__law_has hr (pad_cons (pdv 3) (pad_cons (pd_ix (pdv 5) pd_int) pad_nil)))) (pds_cons (pd_set 6 (pd_def D__law_after hr (pad_cons (pdv 3) (pad_cons (pdv 5) pad_nil))) sc__law_labels.nd)
 (pds_cons (pd_asg (pd_dget hu (pdv 1) (pdv 3)) (pgd_tup rfl (pgsd_cons (pgd_name 7 sc__law_labels.nd) (pgsd_cons (pgd_name 8 sc__law_labels.nd) (pgsd_cons (pgd_name 9 sc__law_labels.nd) pgsd_nil)))))
 (pds_cons (pd_set 10 (pd_tup (pad_cons (pd_fz (pd_op od_add (pdv 7) (pd_ix (pdv 5) pd_int))) (pad_cons (pd_op od_add (pdv 8) pd_int) (pad_cons (pd_fz (pd_op od_add (pdv 9) (pd_lst (pad_cons (pdv 4) pad_nil)))) pad_nil)))) sc__law_labels.nd)
 (pds_one (pd_if (PBW.pb (pbw_or (pb_dnin hu (pdv 6) (pdv 1)) (pbw_or1 (pb_cmp (od_ltT hu) (pdv 10) (pd_dget hu (pdv 1) (pdv 6)))))) (pds_cons (pd_putT 1 hu (pv 1) (pdv 6) (pdv 10))
 (pds_one (pd_set 2 pd_bl sc__law_labels.nd))) pds_nil))))) pds_nil)))))))))
 (pds_one (pd_ret (pdv 1)))))), fun Γ Q E' hl hsp => ?_⟩
  obtain ⟨y, rfl, g, q⟩ := hsp
  have gm2 := g.m2
  have gd2 := g.d2
  walk_at "go"
  intro p1
  walk_at "go"
  refine ⟨y.start, _, rfl, rfl, fun p2 => ?_⟩
  walk_at "go"
  intro mw
  refine ⟨fun m Γ => ∃ (b : Bool) (ws : List (List Int × Lab)) (c3 c4 c5 c6 c7 c8 c9 c10 : SV), Γ = [.fz (yD y), dT p2 (eM labD ws), .fz (.bool b), c3, c4, c5, c6, c7, c8, c9, c10] ∧ LabI y ws ∧ m = 2 * measL y.marks.length ws + (if b then 1 else 0) ∧ (b = false → ∀ s ∈ ws.map (·.1), ∀ k, k < y.deeds.length → StandsL y ws s k),
    ⟨_, true, [(y.start, (0, []))], _, _, _, _, _, _, _, _, rfl, .start, rfl, fun z => by cases z⟩, ?_⟩
  rintro m Γ ⟨b, ws, c3, c4, c5, c6, c7, c8, c9, c10, rfl, I, rfl, hd⟩
  cases b with
  | false =>
    walk_at "go"
    exact q p2 ws I (I.full (hd rfl))
  | true =>
    walk_at "go"
    intro p4
    walk_at "go"
    intro mf
    have ek : (eM labD ws).map (fun q => tI q.1) = (ws.map (·.1)).map tI := by
      rw [List.map_map]
      unfold eM
      rw [List.map_map]
      rfl
    rw [ek]
    refine ForR.of (fun us _ Γ => ∃ (b : Bool) (ws' : List (List Int × Lab)) (c3 c4 c5 c6 c7 c8 c9 c10 : SV), Γ = [.fz (yD y), dT p2 (eM labD ws'), .fz (.bool b), c3, c4, c5, c6, c7, c8, c9, c10] ∧ LabI y ws' ∧ (∀ r ∈ ws.map (·.1), r ∈ ws'.map (·.1)) ∧ (b = true → measL y.marks.length ws' < measL y.marks.length ws) ∧ (b = false → ws' = ws ∧ ∀ r ∈ us, ∀ k, k < y.deeds.length → StandsL y ws r k)) ⟨false, ws, _, _, _, _, _, _, _, _, rfl, I, fun _ h => h, fun z => (by cases z), fun _ => ⟨rfl, fun r hr => by cases hr⟩⟩ (fun _ _ _ _ _ => trivial) (fun us r rest Γ eu ih => ?_) (fun Γ ih => ?_) mf
    · obtain ⟨b, ws', c3, c4, c5, c6, c7, c8, c9, c10, rfl, I', sub, g1, g2⟩ := ih
      have hrw : r ∈ ws.map (·.1) := by rw [← eu]; simp
      walk_at "go"
      rw [List.length_map]
      refine ⟨RgOk.of_le (by decide) (by omega) (by decide) (by omega), ?_⟩
      walk_at "w"
      intro mf
      refine ForR.rg0 (fun (i : Nat) Γ => ∃ (b : Bool) (ws' : List (List Int × Lab)) (c4 c5 c6 c7 c8 c9 c10 : SV), Γ = [.fz (yD y), dT p2 (eM labD ws'), .fz (.bool b), .fz (tI r), c4, c5, c6, c7, c8, c9, c10] ∧ LabI y ws' ∧ (∀ r ∈ ws.map (·.1), r ∈ ws'.map (·.1)) ∧ (b = true → measL y.marks.length ws' < measL y.marks.length ws) ∧ (b = false → ws' = ws ∧ (∀ r ∈ us, ∀ k, k < y.deeds.length → StandsL y ws r k) ∧ ∀ k, k < i → StandsL y ws r k)) ⟨b, ws', _, _, _, _, _, _, _, rfl, I', sub, g1, fun z => ⟨(g2 z).1, (g2 z).2, fun k hk => absurd hk (Nat.not_lt_zero _)⟩⟩ (fun i Γ hi ih => ?_) (fun Γ ih => ?_)
      · obtain ⟨b, ws', c4, c5, c6, c7, c8, c9, c10, rfl, I', sub, g1, g2⟩ := ih
        have hi : i < y.deeds.length := by omega
        have hk := List.getElem?_eq_getElem hi
        generalize y.deeds[i] = d at hk
        have hd : d ∈ y.deeds := mem_at hk
        have gd := g.dd i d hk
        have fd := fitY g d hd
        obtain ⟨l, hc⟩ := Option.isSome_iff_exists.mp (mGet_some.mpr (sub r hrw))
        have ml := (mGet_is I'.nd).mp hc
        obtain ⟨fl, ir, ll⟩ := I'.fit g ml
        have l1 := in_len ir gm2
        have l2 := in_len ⟨fd.st, fd.str⟩ gm2
        have stay : StandsL y ws' r i → (b = false → ws' = ws ∧ (∀ r ∈ us, ∀ k, k < y.deeds.length → StandsL y ws r k) ∧ ∀ k, k < i + 1 → StandsL y ws r k) := fun h z => ⟨(g2 z).1, (g2 z).2.1, fun k hk' => by
          rcases Nat.lt_succ_iff_lt_or_eq.mp hk' with y1 | y1
          · exact (g2 z).2.2 k y1
          · rw [y1, ← (g2 z).1]; exact h⟩
        walk_at "go"
        rw [atD_nat, List.getElem?_map, hk]
        walk_at "go"
        refine ⟨_, r, d.needs, rfl, .inl rfl, ?_⟩
        walk_at "go"
        refine ⟨fun hn => ?_, fun hn => ?_⟩
        · have hn' : ∀ m ∈ d.needs, m ∈ r := by simpa using hn
          walk_at "go"
          refine ⟨r, d, rfl, ir.1, by omega, by omega, fd.st, gd.apart, ?_⟩
          walk_at "go"
          refine ⟨r, labD l, rfl, by rw [eM_get, hc]; rfl, ?_⟩
          walk_at "go"
          intro p7
          walk_at "go"
          refine ⟨by simp only [List.length_map, List.length_singleton]; exact Nat.le_trans (show l.2.length + 1 ≤ 1025 by omega) (by decide), fun p8 => ?_⟩
          walk_at "go"
          rw [labD_ext]
          have le : measL y.marks.length ws' ≤ measL y.marks.length ws := by
            cases b with
            | true => exact Nat.le_of_lt (g1 rfl)
            | false => rw [(g2 rfl).1]; exact Nat.le_refl _
          have fin : (∀ l', (aft r d, l') ∈ ws' → labLt (ext l (i : Int) d.cost) l' = true) → LabI y (mPut ws' (aft r d) (ext l (i : Int) d.cost)) ∧ (∀ q ∈ ws.map (·.1), q ∈ (mPut ws' (aft r d) (ext l (i : Int) d.cost)).map (·.1)) ∧ measL y.marks.length (mPut ws' (aft r d) (ext l (i : Int) d.cost)) < measL y.marks.length ws := fun lt => by
            obtain ⟨e1, e2⟩ := I'.put g ml hk hn' lt
            exact ⟨e1, fun q hq => mPut_in.mpr (.inr (sub q hq)), by omega⟩
          have few := I'.few g
          refine ⟨aft r d, rfl, ?_⟩
          rw [eM_get, Option.isSome_map]
          cases ec : mGet ws' (aft r d) with
          | none =>
            obtain ⟨f1, f2, f3⟩ := fin fun c' z => by rw [(mGet_is I'.nd).mpr z] at ec; cases ec
            walk_at "go"
            refine ⟨by rw [eM_len]; exact Nat.lt_of_le_of_lt few (by decide), aft r d, rfl, ?_⟩
            walk_at "go"
            rw [eM_put]
            exact ⟨true, _, _, _, _, _, _, _, _, rfl, f1, f2, fun _ => f3, fun z => by cases z⟩
          | some l' =>
            have ml' := (mGet_is I'.nd).mp ec
            walk_at "go"
            refine ⟨aft r d, labD l', rfl, by rw [eM_get, ec]; rfl, ?_⟩
            walk_at "go"
            refine ⟨⟨labD_alike _ _, labD_depth _⟩, ?_⟩
            rw [show PyData.tuple [.int (ext l (i : Int) d.cost).1, .int ((ext l (i : Int) d.cost).2.length : Int), lI (ext l (i : Int) d.cost).2] = labD (ext l (i : Int) d.cost) from rfl, show PyData.tuple [.int l'.1, .int (l'.2.length : Int), lI l'.2] = labD l' from rfl, labD_lt]
            refine ⟨fun h => ?_, fun h => ?_⟩
            · obtain ⟨f1, f2, f3⟩ := fin fun c2 z => by
                have z := (mGet_is I'.nd).mpr z
                rw [ec] at z
                cases z
                exact h
              walk_at "go"
              refine ⟨by rw [eM_len]; exact Nat.lt_of_le_of_lt few (by decide), aft r d, rfl, ?_⟩
              walk_at "go"
              rw [eM_put]
              exact ⟨true, _, _, _, _, _, _, _, _, rfl, f1, f2, fun _ => f3, fun z => by cases z⟩
            · walk_at "go"
              refine ⟨_, _, _, _, _, _, _, _, _, rfl, I', sub, g1, stay fun l2 d2 z e2 _ => ⟨l', ?_, ?_⟩⟩
              · rw [hk] at e2
                cases e2
                exact ml'
              · have z := (mGet_is I'.nd).mpr z
                rw [hc] at z
                cases z
                rw [hk] at e2
                cases e2
                exact h
        · walk_at "go"
          exact ⟨_, _, _, _, _, _, _, _, _, rfl, I', sub, g1, stay fun l2 d2 _ e2 h => absurd (by rw [hk] at e2; cases e2; simpa using h) (Bool.eq_false_iff.mp hn)⟩
      · obtain ⟨b, ws', c4, c5, c6, c7, c8, c9, c10, rfl, I', sub, g1, g2⟩ := ih
        walk_at "w"
        refine ⟨b, ws', _, _, _, _, _, _, _, _, rfl, I', sub, g1, fun z => ⟨(g2 z).1, fun q hq => ?_⟩⟩
        rcases List.mem_append.mp hq with y1 | y1
        · exact (g2 z).2.1 q y1
        · rw [List.mem_singleton.mp y1]
          exact fun k hk => (g2 z).2.2 k (by omega)
    · obtain ⟨b, ws', c3, c4, c5, c6, c7, c8, c9, c10, rfl, I', sub, g1, g2⟩ := ih
      walk_at "w"
      refine ⟨_, ?_, b, ws', _, _, _, _, _, _, _, _, rfl, I', rfl, fun z => ?_⟩
      · cases b with
        | true =>
          have := g1 rfl
          simp
          omega
        | false =>
          rw [(g2 rfl).1]
          simp
      · rw [(g2 z).1]
        exact (g2 z).2

end
end K
namespace K
open PySem PySem.Spec PyProof.Rows L2 DL
local macro_rules | `(tactic| walk_at "nod") => `(tactic| first | rfl | exact noD_tI _ | exact noD_ints _ | exact noD_tIs _ | (simp [noD, noDs, noDs_map, noDs_app, noDs_all]; done))
local macro_rules | `(tactic| walk_at "w") => `(tactic| conv => whnf)
local macro_rules | `(tactic| walk_at "side") => `(tactic| first | rfl | exact True.intro | assumption | exact shal_nil (by walk_at "nod") | exact shal_int (by walk_at "nod") | exact shal_bool (by walk_at "nod") | exact shal_str (by walk_at "nod") | exact shal_nilT (by walk_at "nod") | exact flat_ints _ | exact flat_strs _ | omega | exact le_line (Nat.le_of_ble_eq_true rfl))
local macro_rules | `(tactic| walk_at "lc") => `(tactic| first | exact ⟨rfl, fun _ => ⟨rfl, rfl⟩, fun _ => rfl⟩ | exact ⟨rfl, fun _ => ⟨rfl, rfl⟩, fun z => (by cases z)⟩ | exact ⟨fun _ => ⟨rfl, rfl⟩, fun _ => rfl⟩ | exact ⟨fun _ => ⟨rfl, rfl⟩, fun z => (by cases z)⟩)
local macro_rules | `(tactic| walk_at "lch") => `(tactic| first | exact ⟨by simp [*], fun _ => ⟨rfl, rfl⟩, fun _ => rfl⟩ | exact ⟨by simp [*], fun z => (by cases z), fun _ => rfl⟩ | exact ⟨by simp [*], fun _ => ⟨rfl, rfl⟩, fun z => (by cases z)⟩)
local macro_rules | `(tactic| walk_at "go") => `(tactic| (walk_at "w"; repeat ((first | (refine And.intro ?left ?_; (case left => walk_at "side")) | (refine Br.t ?_) | (refine Br.f ?_)); walk_at "w")))
section
variable {P : Program} {w : World} {K : PySem.W.Frag} {mg : Str → Option Value} {base : Heap}
abbrev s_law : Stmt := topS 34
abbrev N_law : List Str := ["_law_script", "_law_d", "_law_turn", "_law_t", "_law_k", "_law_twin", "_law_labels_here", "_law_some_here", "_law_due", "_law_again", "_law_found", "_law_state"]
theorem sc_law : FnScope N_law ["_law_script"] (defScope s_law) := ⟨rfl, rfl, rfl, by decide +kernel, rfl, by decide +kernel, by decide +kernel⟩
def sp_law : SpD := fun Γ Q _ => ∃ ns : List Int, Γ = [.fz (lI ns)] ∧ ns.length ≤ 63 ∧ Q (.fz (.bool true)) Γ
theorem ms_law : MonoSp sp_law := fun Γ Q Q' E E' h _ ⟨ns, e, g, q⟩ => ⟨ns, e, g, h _ _ q⟩
theorem cut_last (xs : List D) : DL.cutD xs none (some (-1)) = xs.dropLast := by
  unfold DL.cutD
  rw [HT.sIx_none, List.drop_zero, Nat.sub_zero, List.dropLast_eq_take]
  congr 1
  show (if (-1 : Int) < 0 then ((-1 : Int) + (xs.length : Int)).toNat else min (-1 : Int).toNat xs.length) = _
  rw [if_pos (by decide)]
  omega
theorem k04_len {y : Yard} (g : GoodY y) (h6 : y.marks.length ≤ 6) {ws : List (List Int × Lab)} (I : LabI y ws) {l : Lab} (hl : l ∈ wishL y ws) : l.2.length ≤ 63 := by
  obtain ⟨s, m, _⟩ := wishL_mem.mp hl
  obtain ⟨sts, gn, _, nd, _⟩ := I.pl s l m
  have a := few6 h6 nd fun r hr => gn.all g hr
  have b := gone_end gn
  rw [List.length_append, List.length_singleton] at a
  omega
theorem wishD (y : Yard) (ws : List (List Int × Lab)) : ((eM labD ws).filter fun q => y.wish.all fun m => decide (m ∈ q.1)).map (fun q => q.2) = (wishL y ws).map labD := by
  unfold wishL eM
  rw [List.filter_map, List.map_map, List.map_map]
  rfl
theorem bestL_mem {y : Yard} {ws : List (List Int × Lab)} {l : Lab} (h : bestL y ws = some l) : l ∈ wishL y ws := by
  unfold bestL at h
  split at h
  · cases h
  · rename_i a ls e
    cases h
    rw [e]
    exact (minL_is ls a).1
theorem noD_labs (ls : List Lab) : noD (.list (ls.map labD)) = true := by
  rw [noD, noDs_map]
  simp [labD, noD, noDs, noDs_map]
theorem goodY_twin {y : Yard} (g : GoodY y) {a : List Deed} {z d : Deed} {c : Int} (e : y.deeds = a ++ [z]) (hd : d ∈ y.deeds) (hc : 0 ≤ c ∧ c ≤ 99) : GoodY ⟨y.marks, a ++ [⟨z.name, d.needs, d.sets, d.strikes, c⟩], y.start, y.wish⟩ := by
  refine ⟨g.m1, g.m2, g.mn, ?_, fun i x ex => ?_, g.b, g.w⟩
  · have := g.d2
    rw [e] at this
    simpa using this
  · have ex : (a ++ [(⟨z.name, d.needs, d.sets, d.strikes, c⟩ : Deed)])[i]? = some x := ex
    show GoodD y.marks.length ((a ++ [(⟨z.name, d.needs, d.sets, d.strikes, c⟩ : Deed)]).take i) x
    have hl := (List.getElem?_eq_some_iff.mp ex).1
    rw [List.length_append, List.length_singleton] at hl
    rw [List.take_append_of_le_length (by omega)]
    by_cases h : i < a.length
    · rw [List.getElem?_append_left h] at ex
      have := g.dd i x (by rw [e, List.getElem?_append_left h]; exact ex)
      rw [e, List.take_append_of_le_length (by omega)] at this
      exact this
    · have hi : i = a.length := by omega
      subst hi
      rw [List.getElem?_append_right (Nat.le_refl _), Nat.sub_self] at ex
      have ex : (⟨z.name, d.needs, d.sets, d.strikes, c⟩ : Deed) = x := by simpa using ex
      subst ex
      have gz := g.dd a.length z (by rw [e, List.getElem?_append_right (Nat.le_refl _), Nat.sub_self]; rfl)
      rw [e, List.take_append_of_le_length (Nat.le_refl _)] at gz
      obtain ⟨k, hk⟩ := List.mem_iff_getElem?.mp hd
      have gd := g.dd k d hk
      exact ⟨gz.nm, gz.fresh, hc.1, hc.2, gd.nd, gd.st, gd.sk, gd.apart⟩
theorem ok_law {f : Addr} {fd : FuncData} (F : Fun K "law" "law" s_law f fd) (B : Bl mg) (NLK : noLstIn K = true) (D__law_dice : DefOk P w K mg base 1 "_law_dice" ["_law_script", "_law_k"] 2 sp_dice) (D__law_off : DefOk P w K mg base 1 "_law_off" ["_law_d", "_law_upto"] 2 sp_off)
    (D__law_yard : DefOk P w K mg base 4 "_law_yard" ["_law_d", "_law_upto", "_law_acts"] 3 sp_yard) (D0_cheapest : DefDf P w K mg base 4 "cheapest" ["yard", "most"] 2 [.int 1024] sp_cheapest) (D__law_labels : DefOk P w K mg base 2 "_law_labels" ["_law_t"] 1 sp_llabels)
    (D__law_has : DefOk P w K mg base 1 "_law_has" ["_law_state", "_law_some_here"] 2 sp_lhas) (D__law_alike : DefOk P w K mg base 4 "_law_alike" ["_law_found", "_law_due"] 2 (spAl 4)) : FnOk P w K mg base CX0 6 f fd ["_law_script"] (liftSp K 1 sp_law) := by
  refine fnd F sc_law 1 rfl ms_law (fun X cdv A outer s H E hX hr => ?_)
  subst hX
  have hu := hu64 hr
  refine ⟨_, (pds_cons (pd_set 1 (pd_def D__law_dice hr (pad_cons (pdv 0) (pad_cons pd_int pad_nil))) sc_law.nd)
 (pds_cons (pd_for PassesOwn.never rfl (pid_rg1 rfl B.range pd_int) (pgd_name 2 sc_law.nd) (pds_cons (pd_set 3 (pd_def D__law_yard hr (pad_cons (pdv 1) (pad_cons pd_int (pad_cons pd_int pad_nil)))) sc_law.nd)
 (pds_cut (pd_if (PBW.pb (pbw_and (pb_cmp od_gt (pd_callB cd_len rfl B.len bt_len (pad_cons (pd_ix (pdv 3) pd_int) pad_nil)) pd_int) (pbw_and1 (pb_cmp (od_eq hu) (pd_def D__law_off hr (pad_cons (pdv 1) (pad_cons pd_int pad_nil))) pd_int)))) (pds_cons (pd_set 4 (pd_def D__law_off hr (pad_cons (pdv 1) (pad_cons (pd_op od_sub (pd_callB cd_len rfl B.len bt_len (pad_cons (pd_ix (pdv 3) pd_int) pad_nil)) pd_int) pad_nil))) sc_law.nd)
 (pds_cons (pd_set 5 (pd_fz (pd_op od_add (pd_op od_add (pd_tup (pad_cons (pd_ix (pd_ix (pd_ix (pdv 3) pd_int) (pd_neg pd_int)) pd_int) pad_nil)) (pd_slice (pd_ix (pd_ix (pdv 3) pd_int) (pdv 4)) (pod_some pd_int) (pod_some pd_int))) (pd_tup (pad_cons (pd_ix (pd_lst (pad_cons (pd_ix (pd_ix (pd_ix (pdv 3) pd_int) (pdv 4)) pd_int) (pad_cons (pd_ix (pd_ix (pd_ix (pdv 3) pd_int) (pd_neg pd_int)) pd_int) pad_nil))) (pd_def D__law_off hr (pad_cons (pdv 1) (pad_cons pd_int pad_nil)))) pad_nil)))) sc_law.nd)
 (pds_one (pd_set 3 (pd_tup (pad_cons (pd_ix (pdv 3) pd_int) (pad_cons (pd_fz (pd_op od_add (pd_slice (pd_ix (pdv 3) pd_int) pod_none (pod_some (pd_neg pd_int))) (pd_tup (pad_cons (pdv 5) pad_nil)))) (pad_cons (pd_ix (pdv 3) pd_int) (pad_cons (pd_ix (pdv 3) pd_int) pad_nil))))) sc_law.nd)))) pds_nil)
 (pds_cons (pd_set 6 (pd_def D__law_labels hr (pad_cons (pdv 3) pad_nil)) sc_law.nd)
 (pds_cons (pd_sfz 7 (pd_lock 6 (pd_setLc 7 [("_law_state", 11)] rfl sc_law.nd (pid_keysT (pdv 6)) (blkOk_by (N := N_law) (sc := defScope s_law) (by decide +kernel)) (fun _ _ _ _ _ => pgc_name 11 sc_law.nd) (fun _ _ _ _ _ => pbs_one (pb_val (pd_def D__law_has hr (pad_cons (pdv 11) (pad_cons (pd_ix (pdv 3) pd_int) pad_nil))))) (fun _ _ _ _ _ => (pd_dget hu (pdv 6) (pdv 11))))))
 (pds_cut (pd_set 8 (pd_ifExp (pb_cmp (od_eq hu) (pdv 7) (pd_lst pad_nil)) pd_non (pd_tup (pad_cons (pd_ix (pd_callB (cd_minD rfl hu) rfl B.min bt_min (pad_cons (pdv 7) pad_nil)) pd_int) (pad_cons (pd_ix (pd_callB (cd_minD rfl hu) rfl B.min bt_min (pad_cons (pdv 7) pad_nil)) pd_int) pad_nil)))) sc_law.nd)
 (pds_one (pd_for PassesOwn.never rfl (pid_rg1 rfl B.range pd_int) (pgd_name 9 sc_law.nd) (pds_cons (pd_set 10 (pd_defD (D0_cheapest.fresh NLK) hr (pad_cons (pdv 3) pad_nil)) sc_law.nd)
 (pds_cons (pd_if (pb_not (pb_val (pd_def D__law_alike.view hr (pad_cons (pdv 10) (pad_cons (pdv 8) pad_nil))))) (pds_one (pd_ret pd_bl)) pds_nil)
 (pds_one (pd_if (pb_isNotO (pdv 10) pd_non) (pds_one (pd_expr (pd_mtC 10 1 mt_app PySem.F.plainAttrs_list PySem.F.slot_list_append PySem.F.type_list_append (pe_ix ix_tup (pv 10) pe_int (by intro _ _; rfl)) (pad_cons pd_int pad_nil)))) pds_nil))))))))))))
 (pds_one (pd_ret pd_bl)))), fun Γ Q E' hl hsp => ?_⟩
  obtain ⟨ns, rfl, hns, q⟩ := hsp
  walk_at "go"
  refine ⟨ns, 0, rfl, hns, ⟨by decide, by decide⟩, fun p xs dx => ?_⟩
  walk_at "go"
  refine ⟨RgOk.of_le (by decide) (by decide) (by decide) (by decide), ?_⟩
  walk_at "w"
  intro mf
  refine ForR.rg0 (fun (i : Nat) Γ => ∃ (xs : List Int) (c2 c3 c4 c5 c6 c7 c8 c9 c10 : SV), Γ = [.fz (lI ns), dc p xs, c2, c3, c4, c5, c6, c7, c8, c9, c10, .no] ∧ Dice xs) ⟨_, _, _, _, _, _, _, _, _, _, rfl, dx⟩ (fun i Γ hi ih => ?_) (fun Γ ih => ?_)
  · obtain ⟨xs, c2, c3, c4, c5, c6, c7, c8, c9, c10, rfl, dx⟩ := ih
    walk_at "go"
    refine ⟨p, xs, 6, 12, rfl, dx, ⟨by decide, by decide⟩, ⟨by decide, by decide⟩, fun xs y d1 g yl1 yl2 => ?_⟩
    walk_at "go"
    refine ⟨⟨fun Γ => ∃ (xs : List Int) (y : Yard) (c4 c5 : SV), Γ = [.fz (lI ns), dc p xs, .fz (.int (i : Nat)), .fz (yD y), c4, c5, c6, c7, c8, c9, c10, .no] ∧ Dice xs ∧ GoodY y ∧ y.marks.length ≤ 6, ?_, fun Γ ih => ?_⟩⟩
    · walk_at "go"
      rw [List.length_map]
      refine ⟨fun h => ?_, fun h => ?_⟩
      · have h1 : 1 < y.deeds.length := by have := of_decide_eq_true h; omega
        walk_at "go"
        refine ⟨p, xs, 2, rfl, d1, ⟨by decide, by decide⟩, fun r1 xs d1 r10 r11 => ?_⟩
        walk_at "go"
        refine ⟨fun h => ?_, fun h => ?_⟩
        · walk_at "go"
          have hl : (y.deeds.map dD).length = y.deeds.length := List.length_map ..
          have gd2 := g.d2
          refine ⟨p, xs, ((y.deeds.map dD).length : Nat) - 1, rfl, d1, ⟨by omega, by omega⟩, fun k xs d2 k0 k1 => ?_⟩
          obtain ⟨j, rfl⟩ : ∃ j : Nat, k = (j : Int) := ⟨k.toNat, by omega⟩
          have hj : j < y.deeds.length := by omega
          have hk := List.getElem?_eq_getElem hj
          generalize y.deeds[j] = d at hk
          obtain ⟨a, z, ed⟩ : ∃ a z, y.deeds = a ++ [z] := by
            rcases List.eq_nil_or_concat y.deeds with e | ⟨a, z, e⟩
            · rw [e] at h1; exact absurd h1 (by simp)
            · exact ⟨a, z, by rw [e, List.concat_eq_append]⟩
          have hz : (y.deeds.map dD) = a.map dD ++ [dD z] := by rw [ed, List.map_append]; rfl
          walk_at "go"
          rw [hz, atD_lst]
          walk_at "go"
          rw [← hz, atD_nat, List.getElem?_map, hk]
          walk_at "go"
          rw [atD_nat, List.getElem?_map, hk]
          walk_at "go"
          rw [hz, atD_lst]
          walk_at "go"
          intro p10
          walk_at "go"
          refine ⟨p, xs, 2, rfl, d2, ⟨by decide, by decide⟩, fun r2 xs d3 r20 r21 => ?_⟩
          obtain ⟨c, ec, hc⟩ : ∃ c, atD [PyData.int d.cost, PyData.int z.cost] r2 = some (.int c) ∧ 0 ≤ c ∧ c ≤ 99 := by
            have gk := cost_ok g hk
            obtain ⟨kz, hkz⟩ := List.mem_iff_getElem?.mp (show z ∈ y.deeds by rw [ed]; simp)
            have gz := cost_ok g hkz
            rcases lt2 r20 r21 with rfl | rfl
            · exact ⟨_, rfl, gk⟩
            · exact ⟨_, rfl, gz⟩
          walk_at "go"
          rw [ec]
          walk_at "go"
          have al : a.length ≤ 16 := by rw [ed, List.length_append] at gd2; omega
          have ecut : DL.cutD (y.deeds.map dD) none (some (-1)) = a.map dD := by rw [cut_last, hz, List.dropLast_concat]
          rw [ecut]
          refine ⟨by rw [List.length_map, List.length_singleton]; exact le_line (by omega), ?_⟩
          walk_at "go"
          have gt := goodY_twin g ed (mem_at hk) hc
          refine ⟨xs, _, .fz (.int (j : Nat)), .fz (dD ⟨z.name, d.needs, d.sets, d.strikes, c⟩), ?_, d3, gt, show y.marks.length ≤ 6 by omega⟩
          rw [show yD ⟨y.marks, a ++ [⟨z.name, d.needs, d.sets, d.strikes, c⟩], y.start, y.wish⟩ = .tuple [.tuple (y.marks.map .str), .tuple (a.map dD ++ [dD ⟨z.name, d.needs, d.sets, d.strikes, c⟩]), tI y.start, tI y.wish] by unfold yD; rw [List.map_append]; rfl]
          rfl
        · walk_at "go"
          exact ⟨xs, y, _, _, rfl, d1, g, by omega⟩
      · walk_at "go"
        exact ⟨xs, y, _, _, rfl, d1, g, by omega⟩
    · obtain ⟨xs, y, c4, c5, rfl, dx, g, y6⟩ := ih
      walk_at "go"
      refine ⟨y, rfl, g, fun p6 ws I F => ?_⟩
      have few := I.few g
      walk_at "go"
      refine ⟨by rw [eM_len]; exact Nat.le_trans few (by decide), ?_⟩
      intro mc
      refine LcR.of (enc := fun q : List Int × D => tI q.1) mc (fun q => y.wish.all fun m => decide (m ∈ q.1)) (fun q => q.2) trivial (fun r hr => ?_) (fun a => ?_)
      · obtain ⟨⟨s, l⟩, hm, rfl⟩ := List.mem_map.mp hr
        walk_at "go"
        refine ⟨_, s, y.wish, rfl, .inl rfl, ?_⟩
        walk_at "go"
        refine ⟨fun h => ?_, fun _ => rfl⟩
        walk_at "go"
        refine ⟨s, labD l, rfl, by rw [eM_get, (mGet_is F.nd).mpr hm]; rfl, ?_⟩
        exact ⟨rfl, rfl⟩
      · walk_at "go"
        rw [wishD]
        refine ⟨⟨fun Γ => ∃ (c6 c7 : SV), Γ = [.fz (lI ns), dc p xs, .fz (.int (i : Nat)), .fz (yD y), c4, c5, c6, c7, .fz (bestD (bestL y ws)), c9, c10, .no], ?_, fun Γ ih => ?_⟩⟩
        · walk_at "go"
          intro p20
          cases e : wishL y ws with
          | nil =>
            rw [show bestL y ws = none by unfold bestL; rw [e]]
            walk_at "go"
            exact ⟨_, _, rfl⟩
          | cons b ls =>
            rw [show bestL y ws = some (minL b ls) by unfold bestL; rw [e]]
            have ad := labs_alike (b :: ls)
            have dp := labs_depth (b :: ls)
            have md := minD_labs ls b
            walk_at "go"
            refine ⟨shal_nil (noD_labs _), ?_⟩
            walk_at "go"
            rw [md]
            walk_at "go"
            rw [md]
            walk_at "go"
            exact ⟨_, _, rfl⟩
        · obtain ⟨c6, c7, rfl⟩ := ih
          walk_at "go"
          refine ⟨RgOk.of_le (by decide) (by decide) (by decide) (by decide), ?_⟩
          walk_at "w"
          intro mf
          refine ForR.rg0 (fun (_ : Nat) Γ => ∃ (c9 c10 : SV), Γ = [.fz (lI ns), dc p xs, .fz (.int (i : Nat)), .fz (yD y), c4, c5, c6, c7, .fz (bestD (bestL y ws)), c9, c10, .no]) ⟨_, _, rfl⟩ (fun i2 Γ hi2 ih => ?_) (fun Γ ih => ?_)
          · obtain ⟨c9, c10, rfl⟩ := ih
            walk_at "go"
            refine ⟨⟨[yD y, .int 1024], rfl, ?_⟩, y, 1024, rfl, g, by decide, fun r hb bl => ⟨rfl, ?_⟩⟩
            · rw [noLs, noL_yD]; rfl
            obtain rfl := hb.same (bestL_is F)
            cases eb : bestL y ws with
            | none =>
              refine ⟨rfl, ?_⟩
              walk_at "go"
              refine ⟨[.none, .none], rfl, .none, rfl, .non, ⟨_, rfl, rfl, ?_⟩⟩
              walk_at "go"
              exact ⟨_, _, rfl⟩
            | some l =>
              have hl := k04_len g y6 I (bestL_mem eb)
              refine ⟨rfl, noLs_ints _, fun b1 a1 => ?_⟩
              walk_at "go"
              refine ⟨[bestD (some l), bestD (some l)], rfl, _, rfl, .tup (by simp) (fun d hd => ?_), ⟨_, rfl, rfl, ?_⟩⟩
              · have hd : d = .int l.1 ∨ d = lI l.2 := by simpa using hd
                rcases hd with rfl | rfl
                · exact .int
                · exact al_lI (by omega)
              walk_at "go"
              refine ⟨by rw [List.length_map]; exact Nat.lt_of_le_of_lt hl (by decide), ?_⟩
              walk_at "go"
              exact ⟨_, _, rfl⟩
          · obtain ⟨c9, c10, rfl⟩ := ih
            walk_at "go"
            exact ⟨xs, _, _, _, _, _, _, _, _, _, rfl, dx⟩
  · obtain ⟨xs, c2, c3, c4, c5, c6, c7, c8, c9, c10, rfl, dx⟩ := ih
    walk_at "go"
    exact q

end
end K
namespace K
open PySem PySem.Spec PyProof.Rows L2 DL
theorem all_mk {l : PySem.W.OpenLaw} {w : World} {K : PySem.W.Frag} {h : Heap} {mg : Str → Option Value} {fa : Addr} (X : K.In h) (G : h.Ns mainGlobals mg) (hfa : mg "law" = some (.ref fa))
    {f0 : Addr} {od0 an0 : Option Addr} {sl0 : Array (Option Value)} {oc0 kV0 dc0 pm0 cd0 ct0 : Value}
    {f1 : Addr} {od1 an1 : Option Addr} {sl1 : Array (Option Value)} {oc1 kV1 dc1 pm1 cd1 ct1 : Value}
    {f2 : Addr} {od2 an2 : Option Addr} {sl2 : Array (Option Value)} {oc2 kV2 dc2 pm2 cd2 ct2 : Value}
    {f3 : Addr} {od3 an3 : Option Addr} {sl3 : Array (Option Value)} {oc3 kV3 dc3 pm3 cd3 ct3 : Value}
    {f4 : Addr} {od4 an4 : Option Addr} {sl4 : Array (Option Value)} {oc4 kV4 dc4 pm4 cd4 ct4 : Value}
    {f5 : Addr} {od5 an5 : Option Addr} {sl5 : Array (Option Value)} {oc5 kV5 dc5 pm5 cd5 ct5 : Value}
    {f6 : Addr} {od6 an6 : Option Addr} {sl6 : Array (Option Value)} {oc6 kV6 dc6 pm6 cd6 ct6 : Value}
    {f7 : Addr} {od7 an7 : Option Addr} {sl7 : Array (Option Value)} {oc7 kV7 dc7 pm7 cd7 ct7 : Value}
    {f8 : Addr} {od8 an8 : Option Addr} {sl8 : Array (Option Value)} {oc8 kV8 dc8 pm8 cd8 ct8 : Value}
    {f9 : Addr} {od9 an9 : Option Addr} {sl9 : Array (Option Value)} {oc9 kV9 dc9 pm9 cd9 ct9 : Value}
    {f10 : Addr} {od10 an10 : Option Addr} {sl10 : Array (Option Value)} {oc10 kV10 dc10 pm10 cd10 ct10 : Value}
    {f11 : Addr} {od11 an11 : Option Addr} {sl11 : Array (Option Value)} {oc11 kV11 dc11 pm11 cd11 ct11 : Value}
    {f12 : Addr} {od12 an12 : Option Addr} {sl12 : Array (Option Value)} {oc12 kV12 dc12 pm12 cd12 ct12 : Value}
    {f13 : Addr} {od13 an13 : Option Addr} {sl13 : Array (Option Value)} {oc13 kV13 dc13 pm13 cd13 ct13 : Value}
    {f14 : Addr} {od14 an14 : Option Addr} {sl14 : Array (Option Value)} {oc14 kV14 dc14 pm14 cd14 ct14 : Value}
    {f15 : Addr} {od15 an15 : Option Addr} {sl15 : Array (Option Value)} {oc15 kV15 dc15 pm15 cd15 ct15 : Value}
    {f16 : Addr} {od16 an16 : Option Addr} {sl16 : Array (Option Value)} {oc16 kV16 dc16 pm16 cd16 ct16 : Value}
    {f17 : Addr} {od17 an17 : Option Addr} {sl17 : Array (Option Value)} {oc17 kV17 dc17 pm17 cd17 ct17 : Value}
    {f18 : Addr} {od18 an18 : Option Addr} {sl18 : Array (Option Value)} {oc18 dc18 pm18 cd18 ct18 : Value}
    {g18 : Addr} {u18 : Tok}
    {f19 : Addr} {od19 an19 : Option Addr} {sl19 : Array (Option Value)} {oc19 kV19 dc19 pm19 cd19 ct19 : Value}
    {f20 : Addr} {od20 an20 : Option Addr} {sl20 : Array (Option Value)} {oc20 kV20 dc20 pm20 cd20 ct20 : Value}
    {f21 : Addr} {od21 an21 : Option Addr} {sl21 : Array (Option Value)} {oc21 kV21 dc21 pm21 ct21 : Value}
    {t0 : Tok}
    {t1 : Tok}
    {t2 : Tok}
    {t3 : Tok}
    {t4 : Tok}
    {t5 : Tok}
    {cL PL : Addr} {eL : Value} {ddL : Option Addr} {vsL : Array Value} {slL : Array (Option Value)}
    (a0 : PySem.W.nsIn K mainGlobals "is_name" = some (some (.ref f0))) (l0 : K.lookup f0 = some ⟨oc0, od0, .func (PySem.W.fnOf "is_name" "is_name" (defArgs s_is_name) (defBody s_is_name) (defScope s_is_name) .none kV0 dc0 pm0 an0 cd0 ct0), sl0⟩) (c0 : PySem.W.codeIn K cd0 "is_name" = true) (k0 : PySem.W.keepIn K (.ref f0) = true)
    (a1 : PySem.W.nsIn K mainGlobals "are_marks" = some (some (.ref f1))) (l1 : K.lookup f1 = some ⟨oc1, od1, .func (PySem.W.fnOf "are_marks" "are_marks" (defArgs s_are_marks) (defBody s_are_marks) (defScope s_are_marks) .none kV1 dc1 pm1 an1 cd1 ct1), sl1⟩) (c1 : PySem.W.codeIn K cd1 "are_marks" = true) (k1 : PySem.W.keepIn K (.ref f1) = true)
    (a2 : PySem.W.nsIn K mainGlobals "is_deed" = some (some (.ref f2))) (l2 : K.lookup f2 = some ⟨oc2, od2, .func (PySem.W.fnOf "is_deed" "is_deed" (defArgs s_is_deed) (defBody s_is_deed) (defScope s_is_deed) .none kV2 dc2 pm2 an2 cd2 ct2), sl2⟩) (c2 : PySem.W.codeIn K cd2 "is_deed" = true) (k2 : PySem.W.keepIn K (.ref f2) = true)
    (a3 : PySem.W.nsIn K mainGlobals "need_yard" = some (some (.ref f3))) (l3 : K.lookup f3 = some ⟨oc3, od3, .func (PySem.W.fnOf "need_yard" "need_yard" (defArgs s_need_yard) (defBody s_need_yard) (defScope s_need_yard) .none kV3 dc3 pm3 an3 cd3 ct3), sl3⟩) (c3 : PySem.W.codeIn K cd3 "need_yard" = true) (k3 : PySem.W.keepIn K (.ref f3) = true)
    (a4 : PySem.W.nsIn K mainGlobals "_law_dice" = some (some (.ref f4))) (l4 : K.lookup f4 = some ⟨oc4, od4, .func (PySem.W.fnOf "_law_dice" "_law_dice" (defArgs s__law_dice) (defBody s__law_dice) (defScope s__law_dice) .none kV4 dc4 pm4 an4 cd4 ct4), sl4⟩) (c4 : PySem.W.codeIn K cd4 "_law_dice" = true) (k4 : PySem.W.keepIn K (.ref f4) = true)
    (a5 : PySem.W.nsIn K mainGlobals "_law_off" = some (some (.ref f5))) (l5 : K.lookup f5 = some ⟨oc5, od5, .func (PySem.W.fnOf "_law_off" "_law_off" (defArgs s__law_off) (defBody s__law_off) (defScope s__law_off) .none kV5 dc5 pm5 an5 cd5 ct5), sl5⟩) (c5 : PySem.W.codeIn K cd5 "_law_off" = true) (k5 : PySem.W.keepIn K (.ref f5) = true)
    (a6 : PySem.W.nsIn K mainGlobals "_law_mixed" = some (some (.ref f6))) (l6 : K.lookup f6 = some ⟨oc6, od6, .func (PySem.W.fnOf "_law_mixed" "_law_mixed" (defArgs s__law_mixed) (defBody s__law_mixed) (defScope s__law_mixed) .none kV6 dc6 pm6 an6 cd6 ct6), sl6⟩) (c6 : PySem.W.codeIn K cd6 "_law_mixed" = true) (k6 : PySem.W.keepIn K (.ref f6) = true)
    (a7 : PySem.W.nsIn K mainGlobals "_law_names" = some (some (.ref f7))) (l7 : K.lookup f7 = some ⟨oc7, od7, .func (PySem.W.fnOf "_law_names" "_law_names" (defArgs s__law_names) (defBody s__law_names) (defScope s__law_names) .none kV7 dc7 pm7 an7 cd7 ct7), sl7⟩) (c7 : PySem.W.codeIn K cd7 "_law_names" = true) (k7 : PySem.W.keepIn K (.ref f7) = true)
    (a8 : PySem.W.nsIn K mainGlobals "_law_some" = some (some (.ref f8))) (l8 : K.lookup f8 = some ⟨oc8, od8, .func (PySem.W.fnOf "_law_some" "_law_some" (defArgs s__law_some) (defBody s__law_some) (defScope s__law_some) .none kV8 dc8 pm8 an8 cd8 ct8), sl8⟩) (c8 : PySem.W.codeIn K cd8 "_law_some" = true) (k8 : PySem.W.keepIn K (.ref f8) = true)
    (a9 : PySem.W.nsIn K mainGlobals "_law_price" = some (some (.ref f9))) (l9 : K.lookup f9 = some ⟨oc9, od9, .func (PySem.W.fnOf "_law_price" "_law_price" (defArgs s__law_price) (defBody s__law_price) (defScope s__law_price) .none kV9 dc9 pm9 an9 cd9 ct9), sl9⟩) (c9 : PySem.W.codeIn K cd9 "_law_price" = true) (k9 : PySem.W.keepIn K (.ref f9) = true)
    (a10 : PySem.W.nsIn K mainGlobals "_law_parts" = some (some (.ref f10))) (l10 : K.lookup f10 = some ⟨oc10, od10, .func (PySem.W.fnOf "_law_parts" "_law_parts" (defArgs s__law_parts) (defBody s__law_parts) (defScope s__law_parts) .none kV10 dc10 pm10 an10 cd10 ct10), sl10⟩) (c10 : PySem.W.codeIn K cd10 "_law_parts" = true) (k10 : PySem.W.keepIn K (.ref f10) = true)
    (a11 : PySem.W.nsIn K mainGlobals "_law_yard" = some (some (.ref f11))) (l11 : K.lookup f11 = some ⟨oc11, od11, .func (PySem.W.fnOf "_law_yard" "_law_yard" (defArgs s__law_yard) (defBody s__law_yard) (defScope s__law_yard) .none kV11 dc11 pm11 an11 cd11 ct11), sl11⟩) (c11 : PySem.W.codeIn K cd11 "_law_yard" = true) (k11 : PySem.W.keepIn K (.ref f11) = true)
    (a12 : PySem.W.nsIn K mainGlobals "_law_has" = some (some (.ref f12))) (l12 : K.lookup f12 = some ⟨oc12, od12, .func (PySem.W.fnOf "_law_has" "_law_has" (defArgs s__law_has) (defBody s__law_has) (defScope s__law_has) .none kV12 dc12 pm12 an12 cd12 ct12), sl12⟩) (c12 : PySem.W.codeIn K cd12 "_law_has" = true) (k12 : PySem.W.keepIn K (.ref f12) = true)
    (a13 : PySem.W.nsIn K mainGlobals "_law_alike" = some (some (.ref f13))) (l13 : K.lookup f13 = some ⟨oc13, od13, .func (PySem.W.fnOf "_law_alike" "_law_alike" (defArgs s__law_alike) (defBody s__law_alike) (defScope s__law_alike) .none kV13 dc13 pm13 an13 cd13 ct13), sl13⟩) (c13 : PySem.W.codeIn K cd13 "_law_alike" = true) (k13 : PySem.W.keepIn K (.ref f13) = true)
    (a14 : PySem.W.nsIn K mainGlobals "has" = some (some (.ref f14))) (l14 : K.lookup f14 = some ⟨oc14, od14, .func (PySem.W.fnOf "has" "has" (defArgs s_has) (defBody s_has) (defScope s_has) .none kV14 dc14 pm14 an14 cd14 ct14), sl14⟩) (c14 : PySem.W.codeIn K cd14 "has" = true) (k14 : PySem.W.keepIn K (.ref f14) = true)
    (a15 : PySem.W.nsIn K mainGlobals "behind" = some (some (.ref f15))) (l15 : K.lookup f15 = some ⟨oc15, od15, .func (PySem.W.fnOf "behind" "behind" (defArgs s_behind) (defBody s_behind) (defScope s_behind) .none kV15 dc15 pm15 an15 cd15 ct15), sl15⟩) (c15 : PySem.W.codeIn K cd15 "behind" = true) (k15 : PySem.W.keepIn K (.ref f15) = true)
    (a16 : PySem.W.nsIn K mainGlobals "coming" = some (some (.ref f16))) (l16 : K.lookup f16 = some ⟨oc16, od16, .func (PySem.W.fnOf "coming" "coming" (defArgs s_coming) (defBody s_coming) (defScope s_coming) .none kV16 dc16 pm16 an16 cd16 ct16), sl16⟩) (c16 : PySem.W.codeIn K cd16 "coming" = true) (k16 : PySem.W.keepIn K (.ref f16) = true)
    (a17 : PySem.W.nsIn K mainGlobals "least_waiting" = some (some (.ref f17))) (l17 : K.lookup f17 = some ⟨oc17, od17, .func (PySem.W.fnOf "least_waiting" "least_waiting" (defArgs s_least_waiting) (defBody s_least_waiting) (defScope s_least_waiting) .none kV17 dc17 pm17 an17 cd17 ct17), sl17⟩) (c17 : PySem.W.codeIn K cd17 "least_waiting" = true) (k17 : PySem.W.keepIn K (.ref f17) = true)
    (a18 : PySem.W.nsIn K mainGlobals "cheapest" = some (some (.ref f18))) (l18 : K.lookup f18 = some ⟨oc18, od18, .func (PySem.W.fnOf "cheapest" "cheapest" (defArgs s_cheapest) (defBody s_cheapest) (defScope s_cheapest) .none (.ref g18) dc18 pm18 an18 cd18 ct18), sl18⟩) (c18 : PySem.W.codeIn K cd18 "cheapest" = true) (k18 : PySem.W.keepIn K (.ref f18) = true)
    (m18 : PySem.W.nsIn K g18 "most" = some (some (.int 1024 u18)))
    (a19 : PySem.W.nsIn K mainGlobals "_law_after" = some (some (.ref f19))) (l19 : K.lookup f19 = some ⟨oc19, od19, .func (PySem.W.fnOf "_law_after" "_law_after" (defArgs s__law_after) (defBody s__law_after) (defScope s__law_after) .none kV19 dc19 pm19 an19 cd19 ct19), sl19⟩) (c19 : PySem.W.codeIn K cd19 "_law_after" = true) (k19 : PySem.W.keepIn K (.ref f19) = true)
    (a20 : PySem.W.nsIn K mainGlobals "_law_labels" = some (some (.ref f20))) (l20 : K.lookup f20 = some ⟨oc20, od20, .func (PySem.W.fnOf "_law_labels" "_law_labels" (defArgs s__law_labels) (defBody s__law_labels) (defScope s__law_labels) .none kV20 dc20 pm20 an20 cd20 ct20), sl20⟩) (c20 : PySem.W.codeIn K cd20 "_law_labels" = true) (k20 : PySem.W.keepIn K (.ref f20) = true)
    (a21 : PySem.W.nsIn K mainGlobals "law" = some (some (.ref f21))) (l21 : K.lookup f21 = some ⟨oc21, od21, .func (PySem.W.fnOf "law" "law" (defArgs s_law) (defBody s_law) (defScope s_law) .none kV21 dc21 pm21 an21 (.ref cL) ct21), sl21⟩) (c21 : PySem.W.codeIn K (.ref cL) "law" = true) (k21 : PySem.W.keepIn K (.ref f21) = true)
    (e0 : PySem.W.nsIn K mainGlobals "MARKS" = some (some (.int 10 t0)))
    (e1 : PySem.W.nsIn K mainGlobals "DEEDS" = some (some (.int 16 t1)))
    (e2 : PySem.W.nsIn K mainGlobals "COST" = some (some (.int 99 t2)))
    (e3 : PySem.W.nsIn K mainGlobals "LETTERS" = some (some (.int 6 t3)))
    (e4 : PySem.W.nsIn K mainGlobals "SMALL" = some (some (.str "abcdefghijklmnopqrstuvwxyz" t4)))
    (e5 : PySem.W.nsIn K mainGlobals "STATES" = some (some (.int 1024 t5)))
    (z0 : PySem.W.nsIn K mainGlobals "abs" = some none)
    (z1 : PySem.W.nsIn K mainGlobals "bool" = some none)
    (z2 : PySem.W.nsIn K mainGlobals "dict" = some none)
    (z3 : PySem.W.nsIn K mainGlobals "enumerate" = some none)
    (z4 : PySem.W.nsIn K mainGlobals "int" = some none)
    (z5 : PySem.W.nsIn K mainGlobals "isinstance" = some none)
    (z6 : PySem.W.nsIn K mainGlobals "len" = some none)
    (z7 : PySem.W.nsIn K mainGlobals "list" = some none)
    (z8 : PySem.W.nsIn K mainGlobals "max" = some none)
    (z9 : PySem.W.nsIn K mainGlobals "min" = some none)
    (z10 : PySem.W.nsIn K mainGlobals "range" = some none)
    (z11 : PySem.W.nsIn K mainGlobals "sorted" = some none)
    (z12 : PySem.W.nsIn K mainGlobals "str" = some none)
    (z13 : PySem.W.nsIn K mainGlobals "sum" = some none)
    (z14 : PySem.W.nsIn K mainGlobals "tuple" = some none)
    (NLK : noLstIn K = true)
    (lc : K.lookup cL = some ⟨eL, ddL, .fields vsL, slL⟩) (vp : vsL[11]? = some (.ref PL)) (np : K.lookup PL = none) (hp : PySem.W.codeHdIn K cL PL = true)
    (own : LamX.OwnTab K fa h) : LamX.LawAtS l w K CX0 6 63 "_law_script" mg fa h := by
  have e := hfa.symm.trans (PySem.W.mg_of X G a21)
  cases e
  have B : Bl mg := ⟨PySem.W.mg_none_of X G z0, PySem.W.mg_none_of X G z1, PySem.W.mg_none_of X G z2, PySem.W.mg_none_of X G z3, PySem.W.mg_none_of X G z4, PySem.W.mg_none_of X G z5, PySem.W.mg_none_of X G z6, PySem.W.mg_none_of X G z7, PySem.W.mg_none_of X G z8, PySem.W.mg_none_of X G z9, PySem.W.mg_none_of X G z10, PySem.W.mg_none_of X G z11, PySem.W.mg_none_of X G z12, PySem.W.mg_none_of X G z13, PySem.W.mg_none_of X G z14⟩
  have T : Tx mg := ⟨⟨_, PySem.W.mg_of X G e0⟩, ⟨_, PySem.W.mg_of X G e1⟩, ⟨_, PySem.W.mg_of X G e2⟩, ⟨_, PySem.W.mg_of X G e3⟩, ⟨_, PySem.W.mg_of X G e4⟩, ⟨_, PySem.W.mg_of X G e5⟩⟩
  have one : ∀ {p : Addr × Addr}, p ∈ [(cL, PL)] → p = (cL, PL) := fun h => List.mem_singleton.mp h
  refine ⟨PySem.W.fnOf "law" "law" (defArgs s_law) (defBody s_law) (defScope s_law) .none kV21 dc21 pm21 an21 (.ref cL) ct21, [(cL, PL)], spTop K sp_law, fun p hp => by rw [one hp]; exact own cL PL _ _ eL ddL vsL slL l21 rfl rfl lc vp, fun p hp => by rw [one hp]; exact np, fun p hq => by rw [one hq]; exact PySem.W.codeHd_of_K X hp, fun s v => .of_eq rfl, fun H a ns hl _ hT hS => law_top (fun ns Q E h q => ⟨ns, rfl, h, q _⟩) hl hS (fun P' h' => lawTab_one a21 l21 rfl rfl lc vp h') (hT _ List.mem_cons_self), fun base _ _ hTB => top_own ?_⟩
  have HT : ∃ c P, LawTab K P ∧ LamX.TabB base mg c P ∧ (Value.ref cL) = .ref c := ⟨cL, PL, ⟨fa, _, _, cL, eL, ddL, vsL, slL, a21, l21, rfl, rfl, lc, vp⟩, hTB _ List.mem_cons_self, rfl⟩
  have F0 := fun_mk (st := s_is_name) l0 c0 k0
  have b0 := F0.binds (ps := ["name"]) fun _ _ _ _ _ _ us hl => match us, hl with | [_], _ => rfl
  have D_is_name : DefOk l.prog w K mg base 1 "is_name" ["name"] 1 sp_is_name := ⟨⟨_, _, ok_is_name F0 B T, PySem.W.mg_of X G a0, k0, b0⟩, ms_is_name⟩
  have F1 := fun_mk (st := s_are_marks) l1 c1 k1
  have b1 := F1.binds (ps := ["some", "many"]) fun _ _ _ _ _ _ us hl => match us, hl with | [_, _], _ => rfl
  have D_are_marks : DefOk l.prog w K mg base 1 "are_marks" ["some", "many"] 2 sp_are_marks := ⟨⟨_, _, ok_are_marks F1 B, PySem.W.mg_of X G a1, k1, b1⟩, ms_are_marks⟩
  have F2 := fun_mk (st := s_is_deed) l2 c2 k2
  have b2 := F2.binds (ps := ["deed", "ahead", "many"]) fun _ _ _ _ _ _ us hl => match us, hl with | [_, _, _], _ => rfl
  have D_is_deed : DefOk l.prog w K mg base 2 "is_deed" ["deed", "ahead", "many"] 3 sp_is_deed := ⟨⟨_, _, ok_is_deed F2 B T D_is_name D_are_marks, PySem.W.mg_of X G a2, k2, b2⟩, ms_is_deed⟩
  have F3 := fun_mk (st := s_need_yard) l3 c3 k3
  have b3 := F3.binds (ps := ["yard"]) fun _ _ _ _ _ _ us hl => match us, hl with | [_], _ => rfl
  have D_need_yard : DefOk l.prog w K mg base 3 "need_yard" ["yard"] 1 sp_need := ⟨⟨_, _, ok_need_yard F3 B T D_is_name D_are_marks D_is_deed, PySem.W.mg_of X G a3, k3, b3⟩, ms_need⟩
  have F4 := fun_mk (st := s__law_dice) l4 c4 k4
  have b4 := F4.binds (ps := ["_law_script", "_law_k"]) fun _ _ _ _ _ _ us hl => match us, hl with | [_, _], _ => rfl
  have D__law_dice : DefOk l.prog w K mg base 1 "_law_dice" ["_law_script", "_law_k"] 2 sp_dice := ⟨⟨_, _, ok_dice F4 B, PySem.W.mg_of X G a4, k4, b4⟩, ms_dice⟩
  have F5 := fun_mk (st := s__law_off) l5 c5 k5
  have b5 := F5.binds (ps := ["_law_d", "_law_upto"]) fun _ _ _ _ _ _ us hl => match us, hl with | [_, _], _ => rfl
  have D__law_off : DefOk l.prog w K mg base 1 "_law_off" ["_law_d", "_law_upto"] 2 sp_off := ⟨⟨_, _, ok_off F5 B, PySem.W.mg_of X G a5, k5, b5⟩, ms_off⟩
  have F6 := fun_mk (st := s__law_mixed) l6 c6 k6
  have b6 := F6.binds (ps := ["_law_d", "_law_row"]) fun _ _ _ _ _ _ us hl => match us, hl with | [_, _], _ => rfl
  have D__law_mixed : DefOk l.prog w K mg base 2 "_law_mixed" ["_law_d", "_law_row"] 2 sp_mixed := ⟨⟨_, _, ok_mixed F6 B D__law_off, PySem.W.mg_of X G a6, k6, b6⟩, ms_mixed⟩
  have F7 := fun_mk (st := s__law_names) l7 c7 k7
  have b7 := F7.binds (ps := ["_law_d", "_law_many"]) fun _ _ _ _ _ _ us hl => match us, hl with | [_, _], _ => rfl
  have D__law_names : DefOk l.prog w K mg base 3 "_law_names" ["_law_d", "_law_many"] 2 sp_names := ⟨⟨_, _, ok_names F7 B D__law_off D__law_mixed, PySem.W.mg_of X G a7, k7, b7⟩, ms_names⟩
  have F8 := fun_mk (st := s__law_some) l8 c8 k8
  have b8 := F8.binds (ps := ["_law_d", "_law_many", "_law_few"]) fun _ _ _ _ _ _ us hl => match us, hl with | [_, _, _], _ => rfl
  have D__law_some : DefOk l.prog w K mg base 2 "_law_some" ["_law_d", "_law_many", "_law_few"] 3 sp_some := ⟨⟨_, _, ok_some F8 B D__law_off, PySem.W.mg_of X G a8, k8, b8⟩, ms_some⟩
  have F9 := fun_mk (st := s__law_price) l9 c9 k9
  have b9 := F9.binds (ps := ["_law_d"]) fun _ _ _ _ _ _ us hl => match us, hl with | [_], _ => rfl
  have D__law_price : DefOk l.prog w K mg base 2 "_law_price" ["_law_d"] 1 sp_price := ⟨⟨_, _, ok_price F9 B D__law_off, PySem.W.mg_of X G a9, k9, b9⟩, ms_price⟩
  have F10 := fun_mk (st := s__law_parts) l10 c10 k10
  have b10 := F10.binds (ps := ["_law_d", "_law_many", "_law_way", "_law_k"]) fun _ _ _ _ _ _ us hl => match us, hl with | [_, _, _, _], _ => rfl
  have D__law_parts : DefOk l.prog w K mg base 3 "_law_parts" ["_law_d", "_law_many", "_law_way", "_law_k"] 4 sp_parts := ⟨⟨_, _, ok_parts F10 B D__law_off D__law_some, PySem.W.mg_of X G a10, k10, b10⟩, ms_parts⟩
  have F11 := fun_mk (st := s__law_yard) l11 c11 k11
  have b11 := F11.binds (ps := ["_law_d", "_law_upto", "_law_acts"]) fun _ _ _ _ _ _ us hl => match us, hl with | [_, _, _], _ => rfl
  have D__law_yard : DefOk l.prog w K mg base 4 "_law_yard" ["_law_d", "_law_upto", "_law_acts"] 3 sp_yard := ⟨⟨_, _, ok_yard F11 B D__law_off D__law_mixed D__law_names D__law_some D__law_price D__law_parts, PySem.W.mg_of X G a11, k11, b11⟩, ms_yard⟩
  have F12 := fun_mk (st := s__law_has) l12 c12 k12
  have b12 := F12.binds (ps := ["_law_state", "_law_some_here"]) fun _ _ _ _ _ _ us hl => match us, hl with | [_, _], _ => rfl
  have D__law_has : DefOk l.prog w K mg base 1 "_law_has" ["_law_state", "_law_some_here"] 2 sp_lhas := ⟨⟨_, _, ok_lhas F12 B, PySem.W.mg_of X G a12, k12, b12⟩, ms_lhas⟩
  have F13 := fun_mk (st := s__law_alike) l13 c13 k13
  have b13 := F13.binds (ps := ["_law_found", "_law_due"]) fun _ _ _ _ _ _ us hl => match us, hl with | [_, _], _ => rfl
  have D13_0 : DefOk l.prog w K mg base 0 "_law_alike" ["_law_found", "_law_due"] 2 (spAl 0) := ⟨⟨_, _, ⟨fun vs H Q E q => q.1, fun A outer s H args us vs Q E _ _ _ _ q => by obtain ⟨_, Γ, _, d, _, al, _⟩ := q; cases al⟩, PySem.W.mg_of X G a13, k13, b13⟩, msAl 0⟩
  have D13_1 : DefOk l.prog w K mg base 1 "_law_alike" ["_law_found", "_law_due"] 2 (spAl 1) := ⟨⟨_, _, ok_alike F13 B D13_0, PySem.W.mg_of X G a13, k13, b13⟩, msAl 1⟩
  have D13_2 : DefOk l.prog w K mg base 2 "_law_alike" ["_law_found", "_law_due"] 2 (spAl 2) := ⟨⟨_, _, ok_alike F13 B D13_1, PySem.W.mg_of X G a13, k13, b13⟩, msAl 2⟩
  have D13_3 : DefOk l.prog w K mg base 3 "_law_alike" ["_law_found", "_law_due"] 2 (spAl 3) := ⟨⟨_, _, ok_alike F13 B D13_2, PySem.W.mg_of X G a13, k13, b13⟩, msAl 3⟩
  have D__law_alike : DefOk l.prog w K mg base 4 "_law_alike" ["_law_found", "_law_due"] 2 (spAl 4) := ⟨⟨_, _, ok_alike F13 B D13_3, PySem.W.mg_of X G a13, k13, b13⟩, msAl 4⟩
  have F14 := fun_mk (st := s_has) l14 c14 k14
  have b14 := F14.binds (ps := ["state", "some"]) fun _ _ _ _ _ _ us hl => match us, hl with | [_, _], _ => rfl
  have D_has : DefOk l.prog w K mg base 1 "has" ["state", "some"] 2 sp_has := ⟨⟨_, _, ok_has F14 B, PySem.W.mg_of X G a14, k14, b14⟩, ms_has⟩
  have F15 := fun_mk (st := s_behind) l15 c15 k15
  have b15 := F15.binds (ps := ["state", "deed"]) fun _ _ _ _ _ _ us hl => match us, hl with | [_, _], _ => rfl
  have D_behind : DefOk l.prog w K mg base 1 "behind" ["state", "deed"] 2 sp_behind := ⟨⟨_, _, ok_behind F15 B, PySem.W.mg_of X G a15, k15, b15⟩, ms_behind⟩
  have F16 := fun_mk (st := s_coming) l16 c16 k16
  have b16 := F16.binds (ps := ["yard", "most"]) fun _ _ _ _ _ _ us hl => match us, hl with | [_, _], _ => rfl
  have D_coming : DefOk l.prog w K mg base 2 "coming" ["yard", "most"] 2 sp_coming := ⟨⟨_, _, ok_coming F16 B D_has D_behind, PySem.W.mg_of X G a16, k16, b16⟩, ms_coming⟩
  have F17 := fun_mk (st := s_least_waiting) l17 c17 k17
  have b17 := F17.binds (ps := ["waiting"]) fun _ _ _ _ _ _ us hl => match us, hl with | [_], _ => rfl
  have D_least_waiting : DefOk l.prog w K mg base 1 "least_waiting" ["waiting"] 1 sp_least_waiting := ⟨⟨_, _, ok_least_waiting F17 B, PySem.W.mg_of X G a17, k17, b17⟩, ms_least_waiting⟩
  have F18 := fun_mk (st := s_cheapest) l18 c18 k18
  have K_cheapest : DefKw l.prog w K mg base 4 "cheapest" ["yard", "most"] 1 ["most"] sp_cheapest := ⟨⟨_, _, ok_cheapest F18 B D_need_yard D_coming D_least_waiting D_has D_behind, PySem.W.mg_of X G a18, k18, ⟨fun s us ws _ hl hm => (match us, ws, hl, hm with | [_], [_], _, _ => .of_eq rfl), fun r1 r2 => r1.append r2⟩⟩, ms_cheapest⟩
  have FD18 : FunD K "cheapest" "cheapest" (defArgs s_cheapest) (defBody s_cheapest) (defScope s_cheapest) [] [("most", V.int 1024)] f18 _ := ⟨⟨_, _, _, _, _, _, _, _, _, _, rfl, l18, c18, .inl ⟨rfl, rfl⟩, .inr ⟨_, rfl, fun q hq => by rw [List.mem_singleton.mp hq]; exact ⟨_, m18, _, rfl⟩⟩⟩, k18⟩
  have B18 := FD18.binds0 (ps := ["yard", "most"]) 1 (by simp) rfl fun D doc pm an cdv ct us ks hu hk => (match us, ks, hu, hk with | [_], [_], _, _ => ⟨_, _, _, _, _, _, rfl, rfl, rfl⟩)
  have D0_cheapest : DefDf l.prog w K mg base 4 "cheapest" ["yard", "most"] 2 [.int 1024] sp_cheapest := ⟨⟨_, _, _, _, ok_cheapest F18 B D_need_yard D_coming D_least_waiting D_has D_behind, PySem.W.mg_of X G a18, k18, B18.choose_spec.2, B18.choose_spec.1, fun H => ⟨_, _, rfl, rfl, rfl⟩⟩, ms_cheapest⟩
  have F19 := fun_mk (st := s__law_after) l19 c19 k19
  have b19 := F19.binds (ps := ["_law_state", "_law_deed"]) fun _ _ _ _ _ _ us hl => match us, hl with | [_, _], _ => rfl
  have D__law_after : DefOk l.prog w K mg base 1 "_law_after" ["_law_state", "_law_deed"] 2 sp_lafter := ⟨⟨_, _, ok_lafter F19 B, PySem.W.mg_of X G a19, k19, b19⟩, ms_lafter⟩
  have F20 := fun_mk (st := s__law_labels) l20 c20 k20
  have b20 := F20.binds (ps := ["_law_t"]) fun _ _ _ _ _ _ us hl => match us, hl with | [_], _ => rfl
  have D__law_labels : DefOk l.prog w K mg base 2 "_law_labels" ["_law_t"] 1 sp_llabels := ⟨⟨_, _, ok_llabels F20 B D__law_has D__law_after, PySem.W.mg_of X G a20, k20, b20⟩, ms_llabels⟩
  have F21 := fun_mk (st := s_law) l21 c21 k21
  exact ok_law F21 B NLK D__law_dice D__law_off D__law_yard D0_cheapest D__law_labels D__law_has D__law_alike
end K
open PySem PySem.W PyProof.Rows
set_option maxHeartbeats 0 in
theorem PySem.Challenge.cw_wishbound_k04_cheapest_by_going_on_holds : PySem.Challenge.rw_wishbound_k04_cheapest_by_going_on.Holds := by
  w_on; o_law; k_head; (case hw => w_witness2)
  k_fill
  refine LamX.walk_ofOwn (l := PySem.Challenge.rw_wishbound_k04_cheapest_by_going_on) (n := 63) (k := 6) (x := "_law_script") (CX := fun _ => L2.CX0) rfl (by decide) rfl ⟨rfl, by decide, by decide⟩ (by first | rfl | decide +kernel) (fun w h Y => by first | exact PySem.W.kIn_of Y | exact PySem.W.km_in_of Y) ?F (fun _ _ _ _ _ h => h)
  case F =>
    intro w mg fa h Y KX G hmg own
    refine' _root_.K.all_mk KX G hmg ?a0 ?l0 ?c0 ?k0 ?a1 ?l1 ?c1 ?k1 ?a2 ?l2 ?c2 ?k2 ?a3 ?l3 ?c3 ?k3 ?a4 ?l4 ?c4 ?k4 ?a5 ?l5 ?c5 ?k5 ?a6 ?l6 ?c6 ?k6 ?a7 ?l7 ?c7 ?k7 ?a8 ?l8 ?c8 ?k8 ?a9 ?l9 ?c9 ?k9 ?a10 ?l10 ?c10 ?k10 ?a11 ?l11 ?c11 ?k11 ?a12 ?l12 ?c12 ?k12 ?a13 ?l13 ?c13 ?k13 ?a14 ?l14 ?c14 ?k14 ?a15 ?l15 ?c15 ?k15 ?a16 ?l16 ?c16 ?k16 ?a17 ?l17 ?c17 ?k17 ?a18 ?l18 ?c18 ?k18 ?m18 ?a19 ?l19 ?c19 ?k19 ?a20 ?l20 ?c20 ?k20 ?a21 ?l21 ?c21 ?k21 ?e0 ?e1 ?e2 ?e3 ?e4 ?e5 ?z0 ?z1 ?z2 ?z3 ?z4 ?z5 ?z6 ?z7 ?z8 ?z9 ?z10 ?z11 ?z12 ?z13 ?z14 ?NLK ?lc ?vp ?np ?hp own
    (case a0 => k_is); (case l0 => k_is); (case c0 => k_is); (case k0 => k_is); (case a1 => k_is); (case l1 => k_is); (case c1 => k_is); (case k1 => k_is); (case a2 => k_is); (case l2 => k_is); (case c2 => k_is); (case k2 => k_is); (case a3 => k_is); (case l3 => k_is); (case c3 => k_is); (case k3 => k_is); (case a4 => k_is); (case l4 => k_is); (case c4 => k_is); (case k4 => k_is); (case a5 => k_is); (case l5 => k_is); (case c5 => k_is); (case k5 => k_is); (case a6 => k_is); (case l6 => k_is); (case c6 => k_is); (case k6 => k_is); (case a7 => k_is); (case l7 => k_is); (case c7 => k_is); (case k7 => k_is); (case a8 => k_is); (case l8 => k_is); (case c8 => k_is); (case k8 => k_is); (case a9 => k_is); (case l9 => k_is); (case c9 => k_is); (case k9 => k_is); (case a10 => k_is); (case l10 => k_is); (case c10 => k_is); (case k10 => k_is); (case a11 => k_is); (case l11 => k_is); (case c11 => k_is); (case k11 => k_is); (case a12 => k_is); (case l12 => k_is); (case c12 => k_is); (case k12 => k_is); (case a13 => k_is); (case l13 => k_is); (case c13 => k_is); (case k13 => k_is); (case a14 => k_is); (case l14 => k_is); (case c14 => k_is); (case k14 => k_is); (case a15 => k_is); (case l15 => k_is); (case c15 => k_is); (case k15 => k_is); (case a16 => k_is); (case l16 => k_is); (case c16 => k_is); (case k16 => k_is); (case a17 => k_is); (case l17 => k_is); (case c17 => k_is); (case k17 => k_is); (case a18 => k_is); (case l18 => k_is); (case c18 => k_is); (case k18 => k_is); (case m18 => k_is); (case a19 => k_is); (case l19 => k_is); (case c19 => k_is); (case k19 => k_is); (case a20 => k_is); (case l20 => k_is); (case c20 => k_is); (case k20 => k_is); (case a21 => k_is); (case l21 => k_is); (case c21 => k_is); (case k21 => k_is); (case e0 => k_is); (case e1 => k_is); (case e2 => k_is); (case e3 => k_is); (case e4 => k_is); (case e5 => k_is); (case z0 => k_is); (case z1 => k_is); (case z2 => k_is); (case z3 => k_is); (case z4 => k_is); (case z5 => k_is); (case z6 => k_is); (case z7 => k_is); (case z8 => k_is); (case z9 => k_is); (case z10 => k_is); (case z11 => k_is); (case z12 => k_is); (case z13 => k_is); (case z14 => k_is); (case NLK => first | rfl | decide +kernel)
    (case lc => k_is); (case vp => first | rfl | trace_state); (case np => first | rfl | trace_state); (case hp => first | rfl | trace_state)
