import PyProof.Rows.All
import HandS.ForMost
import HandS.AnyAll
import HandS.ForExc
import HandS.CallSlots
import KE.DataEq
import KE.LtData
import KE.DataCmp
import KE.DataMinMax
import KE.SortData
import KE.DataFind
import KE.DataAny
import HandS.Wide
import HandS.TupMul
import HandS.TupAny
import HandS.Style
import KE.DataIsa
import HandS.Walk
import HandS.Zip
import HandS.Rev
import HandS.TupLen
import HandS.WordsDict
import KE.KTupSum
import HandS.Comp
import HandS.GenList
import HandS.SetBool
import HandS.Strs
import HandS.Dict
import HandS.Iter
import HandS.NoneIn
import HandS.EndOwn
import PySem.Challenge.RW_sawheld_k95_whole_corners_of_tails
set_option Elab.async false
set_option linter.all false
set_option autoImplicit false
set_option maxRecDepth 100000
set_option maxHeartbeats 4000000
namespace DL
open PySem PySem.Spec PyProof.Rows L2

abbrev D := PyData
def KT (K : PySem.W.Frag) (a : Addr) (xs : List V) : Prop :=
  ∃ (o : Obj) (its : Array Value) (n : Nat), K.lookup a = some o ∧ o.cls = .type "tuple" ∧ o.data = .seq its n ∧ its.size ≤ sizeLine ∧ Vals xs its.toList

def KL (K : PySem.W.Frag) (a : Addr) (xs : List V) : Prop :=
  ∃ (o : Obj) (its : Array Value) (n : Nat), K.lookup a = some o ∧ o.cls = .type "list" ∧ o.dict = none ∧ o.data = .seq its n ∧ its.size ≤ sizeLine ∧ Vals xs its.toList
/-- a key as data -/
def keyD : Key → D
  | .inl i => .int i
  | .inr x => .str x

mutual
/-- v stands for d in H, and nothing of it lies in B -/
inductive Has (K : PySem.W.Frag) (B : Addr → Prop) (H : Hp) : V → D → Prop
  | non : Has K B H .non .none
  | bl (b : Bool) : Has K B H (.bl b) (.bool b)
  | int (i : Int) : Has K B H (.int i) (.int i)
  | str (x : Str) : Has K B H (.str x) (.str x)
  | lst {a : Addr} {xs : List V} {ds : List D} : ((¬ B a ∧ Rd H a (.lst xs)) ∨ KL K a xs) → HasL K B H xs ds → Has K B H (.ref a) (.list ds)
  | tup {a : Addr} {xs : List V} {ds : List D} : ((¬ B a ∧ Rd H a (.tup xs)) ∨ KT K a xs) → HasL K B H xs ds → Has K B H (.ref a) (.tuple ds)
  | dK {a : Addr} {kvs : List (Key × V)} {ks ds : List D} {kds : List (D × D)} : ¬ B a → H a = some (.dK kvs) → ks = kvs.map (fun p => keyD p.1) → HasL K B H (kvs.map (·.2)) ds → kds = ks.zip ds → Has K B H (.ref a) (.dict kds)
  | dT {a : Addr} {kvs : List (List Key × V)} {ks ds : List D} {kds : List (D × D)} : ¬ B a → H a = some (.dT kvs) → ks = kvs.map (fun p => PyData.tuple (p.1.map keyD)) → HasL K B H (kvs.map (·.2)) ds → kds = ks.zip ds → Has K B H (.ref a) (.dict kds)
inductive HasL (K : PySem.W.Frag) (B : Addr → Prop) (H : Hp) : List V → List D → Prop
  | nil : HasL K B H [] []
  | cons {v : V} {vs : List V} {d : D} {ds : List D} : Has K B H v d → HasL K B H vs ds → HasL K B H (v :: vs) (d :: ds)
end

/-- what stands out of B in H stands, out of B', in H' -/
def Ext (B : Addr → Prop) (H : Hp) (B' : Addr → Prop) (H' : Hp) : Prop := ∀ a o, ¬ B a → H a = some o → ¬ B' a ∧ H' a = some o
theorem Ext.refl (B : Addr → Prop) (H : Hp) : Ext B H B H := fun _ _ h e => ⟨h, e⟩
theorem Ext.trans {B B' B'' : Addr → Prop} {H H' H'' : Hp} (x : Ext B H B' H') (y : Ext B' H' B'' H'') : Ext B H B'' H'' :=
  fun a o h e => let ⟨h1, e1⟩ := x a o h e; y a o h1 e1
theorem Ext.same {B : Addr → Prop} {H H' : Hp} (s : Same H H') : Ext B H B H' := fun a o h e => ⟨h, s a o e⟩
theorem Ext.fresh {B : Addr → Prop} {H H' : Hp} {p : Addr} (h0 : H p = none) (s : Same H H') : Ext B H (fun a => B a ∨ a = p) H' := fun a o hb e => ⟨fun z => z.elim hb (ne_of_none e h0), s _ _ e⟩
theorem Ext.rd {B B' : Addr → Prop} {H H' : Hp} (x : Ext B H B' H') {a : Addr} {u : HO} (h : ¬ B a) (r : Rd H a u) : ¬ B' a ∧ Rd H' a u := by
  rcases r with r | ⟨o, r⟩
  · exact ⟨(x a _ h r).1, .inl (x a _ h r).2⟩
  · exact ⟨(x a _ h r).1, .inr ⟨o, (x a _ h r).2⟩⟩

section
variable {K : PySem.W.Frag} {B B' : Addr → Prop} {H H' : Hp}
mutual
theorem Has.ext (x : Ext B H B' H') : ∀ {v : V} {d : D}, Has K B H v d → Has K B' H' v d
  | _, _, .non => .non
  | _, _, .bl b => .bl b
  | _, _, .int i => .int i
  | _, _, .str s => .str s
  | _, _, .lst h r => .lst (h.elim (fun h => .inl (x.rd h.1 h.2)) .inr) (HasL.ext x r)
  | _, _, .tup h r => .tup (h.elim (fun h => .inl (x.rd h.1 h.2)) .inr) (HasL.ext x r)
  | _, _, .dK h e k r z => .dK (x _ _ h e).1 (x _ _ h e).2 k (HasL.ext x r) z
  | _, _, .dT h e k r z => .dT (x _ _ h e).1 (x _ _ h e).2 k (HasL.ext x r) z
theorem HasL.ext (x : Ext B H B' H') : ∀ {vs : List V} {ds : List D}, HasL K B H vs ds → HasL K B' H' vs ds
  | _, _, .nil => .nil
  | _, _, .cons h r => .cons (Has.ext x h) (HasL.ext x r)
end
theorem HasL.length : ∀ {vs : List V} {ds : List D}, HasL K B H vs ds → vs.length = ds.length
  | _, _, .nil => rfl
  | _, _, .cons _ r => congrArg (· + 1) (HasL.length r)
theorem HasL.append : ∀ {vs ws : List V} {ds es : List D}, HasL K B H vs ds → HasL K B H ws es → HasL K B H (vs ++ ws) (ds ++ es)
  | _, _, _, _, .nil, s => s
  | _, _, _, _, .cons h r, s => .cons h (HasL.append r s)
theorem HasL.get : ∀ {vs : List V} {ds : List D}, HasL K B H vs ds → ∀ {i : Nat} {d : D}, ds[i]? = some d → ∃ v, vs[i]? = some v ∧ Has K B H v d
  | _, _, .nil, i, d, e => by simp at e
  | _, _, .cons h r, 0, d, e => by
    simp at e
    subst e
    exact ⟨_, rfl, h⟩
  | _, _, .cons h r, i + 1, d, e => by
    simp at e
    obtain ⟨v, e1, h1⟩ := HasL.get r e
    exact ⟨v, by simpa using e1, h1⟩
theorem HasL.get' : ∀ {vs : List V} {ds : List D}, HasL K B H vs ds → ∀ {i : Nat} {v : V}, vs[i]? = some v → ∃ d, ds[i]? = some d ∧ Has K B H v d
  | _, _, .nil, i, d, e => by simp at e
  | _, _, .cons h r, 0, d, e => by
    simp at e
    subst e
    exact ⟨_, rfl, h⟩
  | _, _, .cons h r, i + 1, d, e => by
    simp at e
    obtain ⟨v, e1, h1⟩ := HasL.get' r e
    exact ⟨v, by simpa using e1, h1⟩
theorem HasL.take : ∀ {vs : List V} {ds : List D} (n : Nat), HasL K B H vs ds → HasL K B H (vs.take n) (ds.take n)
  | _, _, 0, _ => by simp; exact .nil
  | _, _, n + 1, .nil => by simp; exact .nil
  | _, _, n + 1, .cons h r => by simp; exact .cons h (HasL.take n r)
theorem HasL.drop : ∀ {vs : List V} {ds : List D} (n : Nat), HasL K B H vs ds → HasL K B H (vs.drop n) (ds.drop n)
  | _, _, 0, h => by simpa using h
  | _, _, n + 1, .nil => by simp; exact .nil
  | _, _, n + 1, .cons h r => by simp; exact HasL.drop n r
theorem HasL.reverse : ∀ {vs : List V} {ds : List D}, HasL K B H vs ds → HasL K B H vs.reverse ds.reverse
  | _, _, .nil => .nil
  | _, _, .cons h r => by
    rw [List.reverse_cons, List.reverse_cons]
    exact (HasL.reverse r).append (.cons h .nil)
theorem HasL.set : ∀ {vs : List V} {ds : List D} {v : V} {d : D} (i : Nat), HasL K B H vs ds → Has K B H v d → HasL K B H (vs.set i v) (ds.set i d)
  | _, _, _, _, _, .nil, _ => .nil
  | _, _, _, _, 0, .cons h r, q => .cons q r
  | _, _, _, _, i + 1, .cons h r, q => .cons h (HasL.set i r q)
theorem HasL.ints : ∀ (ns : List Int), HasL K B H (ns.map V.int) (ns.map PyData.int)
  | [] => .nil
  | n :: r => .cons (.int n) (HasL.ints r)

theorem Has.non_inv {v : V} (h : Has K B H v .none) : v = .non := by cases h; rfl
theorem Has.bl_inv {v : V} {b : Bool} (h : Has K B H v (.bool b)) : v = .bl b := by cases h; rfl
theorem Has.int_inv {v : V} {i : Int} (h : Has K B H v (.int i)) : v = .int i := by cases h; rfl
theorem Has.str_inv {v : V} {x : Str} (h : Has K B H v (.str x)) : v = .str x := by cases h; rfl
theorem Has.lst_inv {v : V} {ds : List D} (h : Has K B H v (.list ds)) : ∃ a xs, v = .ref a ∧ ((¬ B a ∧ Rd H a (.lst xs)) ∨ KL K a xs) ∧ SqL K H a xs ∧ HasL K B H xs ds := by
  cases h with
  | lst h r => exact ⟨_, _, rfl, h, h.elim (fun h => .inl h.2) .inr, r⟩
theorem Has.tup_inv {v : V} {ds : List D} (h : Has K B H v (.tuple ds)) : ∃ a xs, v = .ref a ∧ ((¬ B a ∧ Rd H a (.tup xs)) ∨ KT K a xs) ∧ SqT K H a xs ∧ HasL K B H xs ds := by
  cases h with
  | tup h r => exact ⟨_, _, rfl, h, h.elim (fun h => .inl h.2) .inr, r⟩

/-- no dict within, depth at most n -/
def okD : Nat → D → Bool
  | _, .none => true
  | _, .bool _ => true
  | _, .int _ => true
  | _, .str _ => true
  | n + 1, .list xs => xs.all (okD n)
  | n + 1, .tuple xs => xs.all (okD n)
  | 0, .list _ => false
  | 0, .tuple _ => false
  | _, .dict _ => false
theorem plainAll_of : ∀ {xs : List D}, (∀ d ∈ xs, d.plain = true) → PyData.plainAll xs = true
  | [], _ => rfl
  | x :: xs, h => by
    rw [PyData.plainAll, h x (by simp), plainAll_of fun d hd => h d (by simp [hd])]
    rfl
theorem depthAll_of {n : Nat} : ∀ {xs : List D}, (∀ d ∈ xs, d.depth ≤ n) → PyData.depthAll xs ≤ n
  | [], _ => Nat.zero_le _
  | x :: xs, h => by
    rw [PyData.depthAll]
    exact Nat.max_le.mpr ⟨h x (by simp), depthAll_of fun d hd => h d (by simp [hd])⟩
theorem okD_spec : ∀ {n : Nat} {d : D}, okD n d = true → d.plain = true ∧ d.depth ≤ n
  | n, .none, _ => ⟨rfl, Nat.zero_le _⟩
  | n, .bool _, _ => ⟨rfl, Nat.zero_le _⟩
  | n, .int _, _ => ⟨rfl, Nat.zero_le _⟩
  | n, .str _, _ => ⟨rfl, Nat.zero_le _⟩
  | n + 1, .list xs, h => by
    simp only [okD, List.all_eq_true] at h
    refine ⟨?_, ?_⟩
    · rw [PyData.plain]; exact plainAll_of fun d hd => (okD_spec (h d hd)).1
    · rw [PyData.depth]; exact Nat.succ_le_succ (depthAll_of fun d hd => (okD_spec (h d hd)).2)
  | n + 1, .tuple xs, h => by
    simp only [okD, List.all_eq_true] at h
    refine ⟨?_, ?_⟩
    · rw [PyData.plain]; exact plainAll_of fun d hd => (okD_spec (h d hd)).1
    · rw [PyData.depth]; exact Nat.succ_le_succ (depthAll_of fun d hd => (okD_spec (h d hd)).2)
  | 0, .list _, h => by simp [okD] at h
  | 0, .tuple _, h => by simp [okD] at h
  | n, .dict _, h => by cases n <;> simp [okD] at h

mutual
theorem Has.dp : ∀ {v : V} {d : D}, Has K B H v d → d.plain = true → Dp K H v d
  | _, _, .non, _ => .non
  | _, _, .bl b, _ => .bl b
  | _, _, .int i, _ => .int i
  | _, _, .str s, _ => .str s
  | _, _, .lst h r, e => .lst (h.elim (fun h => .inl h.2) .inr) (HasL.dp r (by rw [PyData.plain] at e; exact e))
  | _, _, .tup h r, e => .tup (h.elim (fun h => .inl h.2) .inr) (HasL.dp r (by rw [PyData.plain] at e; exact e))
  | _, _, .dK h _ _ r _, e => by simp [PyData.plain] at e
  | _, _, .dT h _ _ r _, e => by simp [PyData.plain] at e
theorem HasL.dp : ∀ {vs : List V} {ds : List D}, HasL K B H vs ds → PyData.plainAll ds = true → DpAll K H vs ds
  | _, _, .nil, _ => .nil
  | _, _, .cons h r, e => by
    rw [PyData.plainAll, Bool.and_eq_true] at e
    exact .cons (Has.dp h e.1) (HasL.dp r e.2)
end
end

/-! ### the state -/
/-- what an object that is changed holds -/
inductive Cell where
  | lst (ds : List D)
  | dK (kvs : List (Key × D))
  | dT (kvs : List (List Key × D))
/-- a name's value: data; an object that is changed (loc: of this frame; else handed in); an exception of class c -/
inductive Sl where
  | dat (d : D)
  | mut (loc : Bool) (c : Cell)
  | exc (c : Str)
abbrev Rho := List (Option Sl)

def CellOk (K : PySem.W.Frag) (B : Addr → Prop) (H : Hp) (p : Addr) : Cell → Prop
  | .lst ds => ∃ vs, H p = some (.lst vs) ∧ HasL K B H vs ds
  | .dK kvs => ∃ kv', H p = some (.dK kv') ∧ kv'.map (·.1) = kvs.map (·.1) ∧ HasL K B H (kv'.map (·.2)) (kvs.map (·.2))
  | .dT kvs => ∃ kv', H p = some (.dT kv') ∧ kv'.map (·.1) = kvs.map (·.1) ∧ HasL K B H (kv'.map (·.2)) (kvs.map (·.2))
def keyT (k : List Key) : D := .tuple (k.map keyD)
/-- the cell as data -/
def cellD : Cell → D
  | .lst ds => .list ds
  | .dK kvs => .dict (kvs.map fun p => (keyD p.1, p.2))
  | .dT kvs => .dict (kvs.map fun p => (keyT p.1, p.2))

/-- an object that may itself be one that is changed; what it holds is data -/
def HasK (K : PySem.W.Frag) (B : Addr → Prop) (H : Hp) (v : V) (d : D) : Prop := Has K B H v d ∨ ∃ p c, v = .ref p ∧ CellOk K B H p c ∧ d = cellD c

/-- a table of code objects stands there -/
def TabAt (H : Hp) (P : Addr) : Prop := ∃ ps : Array Value, H P = some (.tbl ps) ∧ TriplesOk ps.toList
structure Gc where
  K : PySem.W.Frag
  mg : Str → Option Value
  A : Addr → Prop
  H0 : Hp
  inns : List (Nat × Addr)
  exq : Addr → Str → Prop
  T : Addr → Prop

def Bad (G : Gc) (ρ : Rho) (f : Nat → Addr) : Addr → Prop := fun a => G.A a ∨ ∃ i c, ρ[i]? = some (some (.mut true c)) ∧ a = f i
def SlOk (G : Gc) (B : Addr → Prop) (H : Hp) (p : Addr) (v : V) : Sl → Prop
  | .dat d => Has G.K B H v d
  | .mut _ c => v = .ref p ∧ CellOk G.K B H p c
  | .exc c => ∃ a, v = .ref a ∧ G.exq a c
structure Rel (G : Gc) (σ : L2.St) (H : Hp) (ρ : Rho) (f : Nat → Addr) : Prop where
  len : σ.length = ρ.length
  keep : ∀ a o, G.H0 a = some o → (∀ p ∈ G.inns, p.2 ≠ a) → ¬ G.T a → H a = some o
  dom : (∀ a, G.A a → ∃ o, H a = some o) ∧ ∀ a, G.T a → G.A a ∧ TabAt H a
  own : ∀ i c, ρ[i]? = some (some (.mut true c)) → ¬ G.A (f i) ∧ G.H0 (f i) = none
  inj : ∀ i j b c b' c', ρ[i]? = some (some (.mut b c)) → ρ[j]? = some (some (.mut b' c')) → f i = f j → i = j
  inn : ∀ i c, ρ[i]? = some (some (.mut false c)) → (i, f i) ∈ G.inns ∧ G.A (f i)
  innB : ∀ p ∈ G.inns, ∃ c, ρ[p.1]? = some (some (.mut false c)) ∧ f p.1 = p.2
  sl : ∀ i s, ρ[i]? = some (some s) → ∃ v, σ[i]? = some (some v) ∧ SlOk G (Bad G ρ f) H (f i) v s

section
variable {K : PySem.W.Frag} {B B' : Addr → Prop} {H H' : Hp} {G : Gc} {σ σ' : L2.St} {ρ ρ' : Rho} {f : Nat → Addr} {p : Addr}
theorem CellOk.ext (x : Ext B H B' H') {c : Cell} (e : H' p = H p) (h : CellOk K B H p c) : CellOk K B' H' p c := by
  cases c with
  | lst ds => obtain ⟨vs, h1, h2⟩ := h; exact ⟨vs, e.trans h1, h2.ext x⟩
  | dK kvs => obtain ⟨vs, h1, h2, h3⟩ := h; exact ⟨vs, e.trans h1, h2, h3.ext x⟩
  | dT kvs => obtain ⟨vs, h1, h2, h3⟩ := h; exact ⟨vs, e.trans h1, h2, h3.ext x⟩
theorem TabAt.not {c : Cell} (t : TabAt H p) (h : CellOk K B H p c) : False := by
  obtain ⟨ps, e, _⟩ := t
  cases c with
  | lst ds => obtain ⟨vs, h1, h2⟩ := h; rw [e] at h1; cases h1
  | dK kvs => obtain ⟨vs, h1, h2, h3⟩ := h; rw [e] at h1; cases h1
  | dT kvs => obtain ⟨vs, h1, h2, h3⟩ := h; rw [e] at h1; cases h1
theorem CellOk.at {c : Cell} (h : CellOk K B H p c) : ∃ o, H p = some o := by
  cases c with
  | lst ds => obtain ⟨vs, h1, h2⟩ := h; exact ⟨_, h1⟩
  | dK kvs => obtain ⟨vs, h1, h2, h3⟩ := h; exact ⟨_, h1⟩
  | dT kvs => obtain ⟨vs, h1, h2, h3⟩ := h; exact ⟨_, h1⟩
theorem SlOk.ext (x : Ext B H B' H') {s : Sl} {v : V} (e : (∃ b c, s = .mut b c) → H' p = H p) (h : SlOk G B H p v s) : SlOk G B' H' p v s := by
  cases s with
  | dat d => exact Has.ext x h
  | «mut» b c => exact ⟨h.1, h.2.ext x (e ⟨b, c, rfl⟩)⟩
  | exc c => exact h
/-- the cell frozen -/
theorem CellOk.has {c : Cell} (h : CellOk K B H p c) (hp : ¬ B p) : Has K B H (.ref p) (cellD c) := by
  cases c with
  | lst ds => obtain ⟨vs, h1, h2⟩ := h; exact .lst (.inl ⟨hp, .inl h1⟩) h2
  | dK kvs =>
    obtain ⟨vs, h1, h2, h3⟩ := h
    refine .dK (ks := kvs.map fun p => keyD p.1) (ds := kvs.map (·.2)) hp h1 ?_ h3 ?_
    · have := congrArg (List.map keyD) h2
      simpa [List.map_map, Function.comp_def] using this.symm
    · rw [List.zip_map']
  | dT kvs =>
    obtain ⟨vs, h1, h2, h3⟩ := h
    refine .dT (ks := kvs.map fun p => PyData.tuple (p.1.map keyD)) (ds := kvs.map (·.2)) hp h1 ?_ h3 ?_
    · have := congrArg (List.map keyT) h2
      simpa [List.map_map, keyT, Function.comp_def] using this.symm
    · rw [List.zip_map']
      rfl
theorem Rel.bad (R : Rel G σ H ρ f) {a : Addr} (h : Bad G ρ f a) : ∃ o, H a = some o := by
  rcases h with h | ⟨i, c, h, e⟩
  · exact R.dom.1 a h
  · obtain ⟨v, _, h2⟩ := R.sl i _ h
    rw [e]
    exact h2.2.at
theorem Rel.free (R : Rel G σ H ρ f) (h : H p = none) : ¬ Bad G ρ f p := fun z => by
  obtain ⟨o, e⟩ := R.bad z
  rw [h] at e
  cases e
theorem Rel.mutAt (R : Rel G σ H ρ f) {i : Nat} {b : Bool} {c : Cell} (h : ρ[i]? = some (some (.mut b c))) : σ[i]? = some (some (.ref (f i))) ∧ CellOk G.K (Bad G ρ f) H (f i) c := by
  obtain ⟨v, e, h2⟩ := R.sl i _ h
  rw [h2.1] at e
  exact ⟨e, h2.2⟩
theorem Rel.mutBad (R : Rel G σ H ρ f) {i : Nat} {b : Bool} {c : Cell} (h : ρ[i]? = some (some (.mut b c))) : Bad G ρ f (f i) := by
  cases b with
  | true => exact .inr ⟨i, c, h, rfl⟩
  | false => exact .inl (R.inn i c h).2
/-- the heap has grown -/
theorem Rel.same (R : Rel G σ H ρ f) (s : Same H H') : Rel G σ H' ρ f where
  len := R.len
  keep := fun a o e h ht => s _ _ (R.keep a o e h ht)
  dom := ⟨fun a h => let ⟨o, e⟩ := R.dom.1 a h; ⟨o, s _ _ e⟩, fun a h => ⟨(R.dom.2 a h).1, let ⟨ps, e, t⟩ := (R.dom.2 a h).2; ⟨ps, s _ _ e, t⟩⟩⟩
  own := R.own
  inj := R.inj
  inn := R.inn
  innB := R.innB
  sl := fun i t h => by
    obtain ⟨v, e, h2⟩ := R.sl i t h
    refine ⟨v, e, h2.ext (Ext.same s) ?_⟩
    rintro ⟨b, c, rfl⟩
    obtain ⟨o, e2⟩ := h2.2.at
    rw [e2]
    exact s _ _ e2
/-- what stands apart from all that is known -/
structure Fresh (G : Gc) (ρ : Rho) (f : Nat → Addr) (p : Addr) : Prop where
  a : ¬ G.A p
  h0 : G.H0 p = none
  m : ∀ i b c, ρ[i]? = some (some (.mut b c)) → f i ≠ p
theorem Rel.fresh (R : Rel G σ H ρ f) (h : H p = none) : Fresh G ρ f p where
  a := fun z => by obtain ⟨o, e⟩ := R.dom.1 p z; rw [h] at e; cases e
  h0 := by
    cases e : G.H0 p with
    | none => rfl
    | some o =>
      by_cases hp : ∀ q ∈ G.inns, q.2 ≠ p
      · have := R.keep p o e hp fun ht => by
          obtain ⟨_, ps, e2, _⟩ := R.dom.2 p ht
          rw [h] at e2; cases e2
        rw [h] at this; cases this
      · have hp' : ∃ q ∈ G.inns, q.2 = p := by simpa using hp
        obtain ⟨q, hq, e1⟩ := hp'
        obtain ⟨c, e2, e3⟩ := R.innB q hq
        obtain ⟨_, e4⟩ := R.mutAt e2
        obtain ⟨o', e5⟩ := e4.at
        rw [e3, e1, h] at e5; cases e5
  m := fun i b c e z => by
    obtain ⟨_, e4⟩ := R.mutAt e
    obtain ⟨o', e5⟩ := e4.at
    rw [z, h] at e5; cases e5
theorem Fresh.bad (h : Fresh G ρ f p) : ¬ Bad G ρ f p := fun z => z.elim h.a fun ⟨i, c, e, z⟩ => h.m i _ _ e z.symm
end

/-! ### a new object that nothing else holds -/
def Gc.plus (G : Gc) (p : Addr) : Gc := { G with A := fun a => G.A a ∨ a = p }
section
variable {H H' : Hp} {G : Gc} {σ σ' : L2.St} {ρ ρ' : Rho} {f : Nat → Addr} {p : Addr}
theorem bad_plus {a : Addr} : Bad (G.plus p) ρ f a ↔ Bad G ρ f a ∨ a = p := by
  unfold Bad Gc.plus
  constructor
  · rintro ((h | h) | h)
    · exact .inl (.inl h)
    · exact .inr h
    · exact .inl (.inr h)
  · rintro ((h | h) | h)
    · exact .inl (.inl h)
    · exact .inr h
    · exact .inl (.inr h)
theorem SlOk.plus {B : Addr → Prop} {q : Addr} {s : Sl} {v : V} (h : SlOk G B H q v s) : SlOk (G.plus p) B H q v s := by
  cases s <;> exact h
theorem SlOk.minus {B : Addr → Prop} {q : Addr} {s : Sl} {v : V} (h : SlOk (G.plus p) B H q v s) : SlOk G B H q v s := by
  cases s <;> exact h
theorem Rel.grow (R : Rel G σ H ρ f) (h0 : H p = none) (s : Same H H') (he : ∃ o, H' p = some o) : Rel (G.plus p) σ H' ρ f := by
  have R' := R.same s
  have fr := R.fresh h0
  refine ⟨R.len, R'.keep, ⟨fun a h => ?_, fun a h => ⟨.inl (R'.dom.2 a h).1, (R'.dom.2 a h).2⟩⟩, fun i c e => ⟨fun z => ?_, (R.own i c e).2⟩, R.inj, fun i c e => ⟨(R.inn i c e).1, .inl (R.inn i c e).2⟩, R.innB, fun i t e => ?_⟩
  · rcases h with h | h
    · exact R'.dom.1 a h
    · subst h; exact he
  · rcases z with z | z
    · exact (R.own i c e).1 z
    · exact fr.m i _ _ e z
  · obtain ⟨v, e1, h⟩ := R.sl i t e
    have x : Ext (Bad G ρ f) H (Bad (G.plus p) ρ f) H' := fun a o hb eo => ⟨fun z => (bad_plus.mp z).elim hb (ne_of_none eo h0), s a o eo⟩
    refine ⟨v, e1, (h.ext x ?_).plus⟩
    rintro ⟨b, c, rfl⟩
    obtain ⟨o, eo⟩ := h.2.at
    rw [eo]
    exact s _ _ eo
theorem Rel.minus (R : Rel (G.plus p) σ H ρ f) (fr : Fresh G ρ f p) (hi : ∀ i c, ρ[i]? = some (some (.mut false c)) → G.A (f i)) (ht : ¬ G.T p) : Rel G σ H ρ f := by
  refine ⟨R.len, R.keep, ⟨fun a h => R.dom.1 a (.inl h), fun a h => ⟨(R.dom.2 a h).1.elim id fun z => absurd (z ▸ h) ht, (R.dom.2 a h).2⟩⟩, fun i c e => ⟨fun z => (R.own i c e).1 (.inl z), (R.own i c e).2⟩, R.inj, fun i c e => ⟨(R.inn i c e).1, hi i c e⟩, R.innB, fun i t e => ?_⟩
  obtain ⟨v, e1, h⟩ := R.sl i t e
  exact ⟨v, e1, (h.ext (fun a o hb eo => ⟨fun z => hb (bad_plus.mpr (.inl z)), eo⟩) fun _ => rfl).minus⟩
/-- p holds c, apart from all else -/
structure NewAt (G : Gc) (σ : L2.St) (H : Hp) (ρ : Rho) (f : Nat → Addr) (p : Addr) (c : Cell) : Prop where
  rel : Rel G σ H ρ f
  relP : Rel (G.plus p) σ H ρ f
  fr : Fresh G ρ f p
  ok : CellOk G.K (fun a => Bad G ρ f a ∨ a = p) H p c
theorem NewAt.mk' {c : Cell} (R : Rel G σ H ρ f) (h0 : H p = none) (s : Same H H') (ok : CellOk G.K (fun a => Bad G ρ f a ∨ a = p) H' p c) : NewAt G σ H' ρ f p c :=
  ⟨R.same s, R.grow h0 s ok.at, R.fresh h0, ok⟩
end

/-! ### what an evaluation gives -/
inductive R (α : Type) where
  | val (a : α) (ρ : Rho)
  | exc (c : Str) (ρ : Rho)
abbrev M (α : Type) := Rho → Option (R α)
def M.ret {α : Type} (a : α) : M α := fun ρ => some (.val a ρ)
def M.bind {α β : Type} (m : M α) (k : α → M β) : M β := fun ρ => match m ρ with
  | none => none
  | some (.exc c ρ') => some (.exc c ρ')
  | some (.val a ρ') => k a ρ'
def M.lift {α : Type} (o : Option α) : M α := fun ρ => match o with
  | none => none
  | some a => some (.val a ρ)
theorem bind_inv {α β : Type} {m : M α} {k : α → M β} {ρ : Rho} {r : R β} (h : M.bind m k ρ = some r) :
    (∃ c ρ', m ρ = some (.exc c ρ') ∧ r = .exc c ρ') ∨ ∃ a ρ', m ρ = some (.val a ρ') ∧ k a ρ' = some r := by
  unfold M.bind at h
  cases e : m ρ with
  | none => rw [e] at h; cases h
  | some x =>
    rw [e] at h
    cases x with
    | exc c ρ' => exact .inl ⟨c, ρ', rfl, (Option.some.inj h).symm⟩
    | val a ρ' => exact .inr ⟨a, ρ', rfl, h⟩
theorem lift_inv {α : Type} {o : Option α} {ρ : Rho} {r : R α} (h : M.lift o ρ = some r) : ∃ a, o = some a ∧ r = .val a ρ := by
  unfold M.lift at h
  cases o with
  | none => cases h
  | some a => exact ⟨a, rfl, (Option.some.inj h).symm⟩

@[reducible] def Out {α : Type} (r : R α) (P : α → Rho → Prop) (E : Str → Rho → Prop) : Prop := match r with
  | .val a ρ => P a ρ
  | .exc c ρ => E c ρ
/-- an exception as it is wished -/
def XP (G : Gc) (W : WX) (σ : L2.St) (c : Str) (ρ' : Rho) (f : Nat → Addr) : Prop := ∀ cls dd H', G.mg c = some cls → Rel G σ H' ρ' f → W cls dd σ H'
/-- data -/
def tD (G : Gc) (W : WX) (m : M D) : TE := fun σ H Q => ∃ ρ f r, Rel G σ H ρ f ∧ m ρ = some r ∧
  Out r (fun d ρ' => ∀ v H', Rel G σ H' ρ' f → Ext (Bad G ρ f) H (Bad G ρ' f) H' → Has G.K (Bad G ρ' f) H' v d → Q v H') (fun c ρ' => XP G W σ c ρ' f)
/-- data that is looked at, at once -/
def tK (G : Gc) (W : WX) (m : M D) : TE := fun σ H Q => ∃ ρ f r, Rel G σ H ρ f ∧ m ρ = some r ∧
  Out r (fun d ρ' => ∀ v H', Rel G σ H' ρ' f → Ext (Bad G ρ f) H (Bad G ρ' f) H' → HasK G.K (Bad G ρ' f) H' v d → Q v H') (fun c ρ' => XP G W σ c ρ' f)
/-- a new object that nothing else holds -/
def tF (G : Gc) (W : WX) (m : M Cell) : TE := fun σ H Q => ∃ ρ f r, Rel G σ H ρ f ∧ m ρ = some r ∧
  Out r (fun c ρ' => ∀ p H', NewAt G σ H' ρ' f p c → Ext (Bad G ρ f) H (fun a => Bad G ρ' f a ∨ a = p) H' → Q (.ref p) H') (fun c ρ' => XP G W σ c ρ' f)
def tT (G : Gc) (W : WX) (m : M Bool) : TT := fun σ H Q => ∃ ρ f r, Rel G σ H ρ f ∧ m ρ = some r ∧
  Out r (fun b ρ' => ∀ H', Rel G σ H' ρ' f → Ext (Bad G ρ f) H (Bad G ρ' f) H' → Q b H') (fun c ρ' => XP G W σ c ρ' f)
def tA (G : Gc) (W : WX) (m : M (List D)) : TA := fun σ H Q => ∃ ρ f r, Rel G σ H ρ f ∧ m ρ = some r ∧
  Out r (fun ds ρ' => ∀ vs H', Rel G σ H' ρ' f → Ext (Bad G ρ f) H (Bad G ρ' f) H' → HasL G.K (Bad G ρ' f) H' vs ds → Q vs H') (fun c ρ' => XP G W σ c ρ' f)
abbrev DE (X : Cx) (G : Gc) (W : WX) (e : Expr) (m : M D) : Prop := PE X e (tD G W m)
abbrev DK (X : Cx) (G : Gc) (W : WX) (e : Expr) (m : M D) : Prop := PE X e (tK G W m)
abbrev DF (X : Cx) (G : Gc) (W : WX) (e : Expr) (m : M Cell) : Prop := PE X e (tF G W m)
abbrev DT (X : Cx) (G : Gc) (W : WX) (e : Expr) (m : M Bool) : Prop := PT X e (tT G W m)
abbrev DA (X : Cx) (G : Gc) (W : WX) (es : List Expr) (m : M (List D)) : Prop := PA X es (tA G W m)
theorem imp {X : Cx} {e : Expr} {t t' : TE} (h : PE X e t) (w : ∀ σ H Q, t' σ H Q → t σ H Q) : PE X e t' := ⟨fun pins s σ H Q I hq => h.run pins s σ H Q I (w σ H Q hq)⟩
theorem impT {X : Cx} {e : Expr} {t t' : TT} (h : PT X e t) (w : ∀ σ H Q, t' σ H Q → t σ H Q) : PT X e t' := ⟨fun pins s σ H Q I hq => h.run pins s σ H Q I (w σ H Q hq)⟩
theorem impA {X : Cx} {e : List Expr} {t t' : TA} (h : PA X e t) (w : ∀ σ H Q, t' σ H Q → t σ H Q) : PA X e t' := ⟨fun pos pins s σ H Q I hq => h.run pos pins s σ H Q I (w σ H Q hq)⟩

section
variable {X : Cx} {G : Gc} {W : WX} {a b e : Expr} {es : List Expr} {m ma mb : M D} {pos : Pos} {σ : L2.St} {H : Hp}

/-- data, then what follows -/
theorem tD_bind {α : Type} {k : D → M α} {ρ : Rho} {f : Nat → Addr} {r : R α} {Q : VK} (Rl : Rel G σ H ρ f) (h : M.bind m k ρ = some r) (hx : ∀ c ρ', r = .exc c ρ' → XP G W σ c ρ' f)
    (hk : ∀ d ρ' v H', k d ρ' = some r → Rel G σ H' ρ' f → Ext (Bad G ρ f) H (Bad G ρ' f) H' → Has G.K (Bad G ρ' f) H' v d → Q v H') : tD G W m σ H Q := by
  rcases bind_inv h with ⟨c, ρ', e1, e2⟩ | ⟨d, ρ', e1, e2⟩
  · exact ⟨ρ, f, _, Rl, e1, hx c ρ' e2⟩
  · exact ⟨ρ, f, _, Rl, e1, fun v H' R' x hh => hk d ρ' v H' e2 R' x hh⟩
theorem tK_bind {α : Type} {k : D → M α} {ρ : Rho} {f : Nat → Addr} {r : R α} {Q : VK} (Rl : Rel G σ H ρ f) (h : M.bind m k ρ = some r) (hx : ∀ c ρ', r = .exc c ρ' → XP G W σ c ρ' f)
    (hk : ∀ d ρ' v H', k d ρ' = some r → Rel G σ H' ρ' f → Ext (Bad G ρ f) H (Bad G ρ' f) H' → HasK G.K (Bad G ρ' f) H' v d → Q v H') : tK G W m σ H Q := by
  rcases bind_inv h with ⟨c, ρ', e1, e2⟩ | ⟨d, ρ', e1, e2⟩
  · exact ⟨ρ, f, _, Rl, e1, hx c ρ' e2⟩
  · exact ⟨ρ, f, _, Rl, e1, fun v H' R' x hh => hk d ρ' v H' e2 R' x hh⟩
theorem tA_bind {α : Type} {m : M (List D)} {k : List D → M α} {ρ : Rho} {f : Nat → Addr} {r : R α} {Q : List V → Hp → Prop} (Rl : Rel G σ H ρ f) (h : M.bind m k ρ = some r) (hx : ∀ c ρ', r = .exc c ρ' → XP G W σ c ρ' f)
    (hk : ∀ d ρ' v H', k d ρ' = some r → Rel G σ H' ρ' f → Ext (Bad G ρ f) H (Bad G ρ' f) H' → HasL G.K (Bad G ρ' f) H' v d → Q v H') : tA G W m σ H Q := by
  rcases bind_inv h with ⟨c, ρ', e1, e2⟩ | ⟨d, ρ', e1, e2⟩
  · exact ⟨ρ, f, _, Rl, e1, hx c ρ' e2⟩
  · exact ⟨ρ, f, _, Rl, e1, fun v H' R' x hh => hk d ρ' v H' e2 R' x hh⟩
theorem tT_bind {α : Type} {m : M Bool} {k : Bool → M α} {ρ : Rho} {f : Nat → Addr} {r : R α} {Q : Bool → Hp → Prop} (Rl : Rel G σ H ρ f) (h : M.bind m k ρ = some r) (hx : ∀ c ρ', r = .exc c ρ' → XP G W σ c ρ' f)
    (hk : ∀ d ρ' H', k d ρ' = some r → Rel G σ H' ρ' f → Ext (Bad G ρ f) H (Bad G ρ' f) H' → Q d H') : tT G W m σ H Q := by
  rcases bind_inv h with ⟨c, ρ', e1, e2⟩ | ⟨d, ρ', e1, e2⟩
  · exact ⟨ρ, f, _, Rl, e1, hx c ρ' e2⟩
  · exact ⟨ρ, f, _, Rl, e1, fun H' R' x => hk d ρ' H' e2 R' x⟩
theorem xok {α : Type} {f : Nat → Addr} {r : R α} {P : α → Rho → Prop} (h : Out r P (fun c ρ' => XP G W σ c ρ' f)) : ∀ c ρ', r = .exc c ρ' → XP G W σ c ρ' f := fun c ρ' e => by
  subst e
  exact h

/-- data may be looked at -/
theorem dk (h : DE X G W e m) : DK X G W e m := imp h fun σ H Q ⟨ρ, f, r, R, hm, hp⟩ => ⟨ρ, f, r, R, hm, by
  cases r with
  | val d ρ' => exact fun v H' R' x hh => hp v H' R' x (.inl hh)
  | exc c ρ' => exact hp⟩
/-- a new object as data -/
def M.cell (m : M Cell) : M D := m.bind fun c => .ret (cellD c)
theorem de_f {m : M Cell} (h : DF X G W e m) : DE X G W e (M.cell m) := imp h fun σ H Q ⟨ρ, f, r, R, hm, hp⟩ => by
  rcases bind_inv hm with ⟨c, ρ', e1, e2⟩ | ⟨c, ρ', e1, e2⟩
  · subst e2
    exact ⟨ρ, f, _, R, e1, hp⟩
  · cases (Option.some.inj e2)
    refine ⟨ρ, f, _, R, e1, fun p H' N x => hp _ _ N.rel (fun a o hb e => ⟨fun z => (x a o hb e).1 (.inl z), (x a o hb e).2⟩) ?_⟩
    have ok' : CellOk G.K (Bad G ρ' f) H' p c := N.ok.ext (fun a o h e => ⟨fun z => h (.inl z), e⟩) rfl
    exact ok'.has N.fr.bad
end
end DL
namespace DL
open PySem PySem.Spec PyProof.Rows L2

section
variable {K : PySem.W.Frag} {B B' : Addr → Prop} {H H' : Hp} {v x y : V} {d e z : D} {p : Addr}
theorem Has.same (h : Has K B H v d) (s : Same H H') : Has K B H' v d := h.ext (Ext.same s)
theorem HasL.same {vs : List V} {ds : List D} (h : HasL K B H vs ds) (s : Same H H') : HasL K B H' vs ds := h.ext (Ext.same s)
theorem same_upd {o : HO} (h : H p = none) : Same H (upd H p o) := fun b x e => by
  rw [upd_ne (ne_of_none e h)]
  exact e
theorem HasK.lst {ds : List D} (h : HasK K B H v (.list ds)) : ∃ a xs, v = .ref a ∧ True ∧ SqL K H a xs ∧ HasL K B H xs ds := by
  rcases h with h | ⟨p, c, rfl, ok, e⟩
  · obtain ⟨a, xs, e, h1, h2, h3⟩ := h.lst_inv
    exact ⟨a, xs, e, trivial, h2, h3⟩
  · cases c with
    | lst es =>
      obtain ⟨vs, h1, h2⟩ := ok
      cases e
      exact ⟨p, vs, rfl, trivial, .inl (.inl h1), h2⟩
    | dK kvs => cases e
    | dT kvs => cases e
theorem HasK.tup {ds : List D} (h : HasK K B H v (.tuple ds)) : Has K B H v (.tuple ds) := by
  rcases h with h | ⟨p, c, rfl, ok, e⟩
  · exact h
  · cases c <;> cases e
theorem HasK.int {i : Int} (h : HasK K B H v (.int i)) : v = .int i := by
  rcases h with h | ⟨p, c, rfl, ok, e⟩
  · exact h.int_inv
  · cases c <;> cases e
theorem HasK.bl {i : Bool} (h : HasK K B H v (.bool i)) : v = .bl i := by
  rcases h with h | ⟨p, c, rfl, ok, e⟩
  · exact h.bl_inv
  · cases c <;> cases e
theorem HasK.str {i : Str} (h : HasK K B H v (.str i)) : v = .str i := by
  rcases h with h | ⟨p, c, rfl, ok, e⟩
  · exact h.str_inv
  · cases c <;> cases e
theorem HasK.non (h : HasK K B H v .none) : v = .non := by
  rcases h with h | ⟨p, c, rfl, ok, e⟩
  · exact h.non_inv
  · cases c <;> cases e
theorem HasK.dp (h : HasK K B H v d) (hp : d.plain = true) : Dp K H v d := by
  rcases h with h | ⟨p, c, rfl, ok, e⟩
  · exact h.dp hp
  · subst e
    cases c with
    | lst ds =>
      obtain ⟨vs, h1, h2⟩ := ok
      refine .lst (.inl (.inl h1)) (h2.dp ?_)
      simpa [cellD, PyData.plain] using hp
    | dK kvs => simp [cellD, PyData.plain] at hp
    | dT kvs => simp [cellD, PyData.plain] at hp
end

/-- g tells what the operation r gives, for data -/
def OpD (K : PySem.W.Frag) (r : R2) (g : D → D → Option D) : Prop :=
  ∀ (B : Addr → Prop) (H : Hp) (x y : V) (d e z : D) (Q : VK), (∀ p, H p = none → ¬ B p) → HasK K B H x d → HasK K B H y e → g d e = some z → (∀ v H', Same H H' → Has K B H' v z → Q v H') → r x y H Q
/-- .. a new object -/
def OpF (K : PySem.W.Frag) (r : R2) (g : D → D → Option Cell) : Prop :=
  ∀ (B : Addr → Prop) (H : Hp) (x y : V) (d e : D) (z : Cell) (Q : VK), (∀ p, H p = none → ¬ B p) → HasK K B H x d → HasK K B H y e → g d e = some z →
    (∀ p H', Same H H' → H p = none → CellOk K (fun a => B a ∨ a = p) H' p z → Q (.ref p) H') → r x y H Q
def UnD (K : PySem.W.Frag) (r : V → Hp → VK → Prop) (g : D → Option D) : Prop :=
  ∀ (B : Addr → Prop) (H : Hp) (x : V) (d z : D) (Q : VK), (∀ p, H p = none → ¬ B p) → HasK K B H x d → g d = some z → (∀ v H', Same H H' → Has K B H' v z → Q v H') → r x H Q
def UnF (K : PySem.W.Frag) (r : V → Hp → VK → Prop) (g : D → Option Cell) : Prop :=
  ∀ (B : Addr → Prop) (H : Hp) (x : V) (d : D) (z : Cell) (Q : VK), (∀ p, H p = none → ¬ B p) → HasK K B H x d → g d = some z →
    (∀ p H', Same H H' → H p = none → CellOk K (fun a => B a ∨ a = p) H' p z → Q (.ref p) H') → r x H Q
theorem OpD.or {K : PySem.W.Frag} {r r' : R2} {g : D → D → Option D} {P : D → D → Bool} (h : OpD K r (fun d e => if P d e then g d e else none)) (h' : OpD K r' (fun d e => if P d e then none else g d e)) :
    OpD K (fun x y H Q => r x y H Q ∨ r' x y H Q) g := by
  intro B H x y d e z Q hf hx hy hg hq
  cases hp : P d e with
  | true => exact .inl (h B H x y d e z Q hf hx hy (by simp [hp, hg]) hq)
  | false => exact .inr (h' B H x y d e z Q hf hx hy (by simp [hp, hg]) hq)

def M.bin (g : D → D → Option D) (a b : M D) : M D := a.bind fun x => b.bind fun y => .lift (g x y)
def M.binF (g : D → D → Option Cell) (a b : M D) : M Cell := a.bind fun x => b.bind fun y => .lift (g x y)
def M.un (g : D → Option D) (a : M D) : M D := a.bind fun x => .lift (g x)
def M.unF (g : D → Option Cell) (a : M D) : M Cell := a.bind fun x => .lift (g x)

section
variable {X : Cx} {G : Gc} {W : WX} {a b e : Expr} {es : List Expr} {ma mb : M D} {pos : Pos}

theorem bin_imp {r : R2} {g : D → D → Option D} (hk : X.K = G.K) (hg : OpD X.K r g) : ∀ σ H Q, tD G W (M.bin g ma mb) σ H Q → tOp r (tD G W ma) (tK G W mb) σ H Q := by
  rintro σ H Q ⟨ρ, f, s, R, hm, hp⟩
  rw [hk] at hg
  have hx := xok hp
  refine tD_bind R hm hx fun x ρ1 v H1 hk1 R1 x1 hv => ?_
  refine tK_bind R1 hk1 hx fun y ρ2 u H2 hk2 R2 x2 hu => ?_
  obtain ⟨z, e, er⟩ := lift_inv hk2
  subst er
  exact hg (Bad G ρ2 f) H2 v u x y z Q (fun p hp => R2.free hp) (.inl (hv.ext x2)) hu e (fun w H3 s hw => hp w H3 (R2.same s) ((x1.trans x2).trans (Ext.same s)) hw)
theorem binF_imp {r : R2} {g : D → D → Option Cell} (hk : X.K = G.K) (hg : OpF X.K r g) : ∀ σ H Q, tF G W (M.binF g ma mb) σ H Q → tOp r (tD G W ma) (tK G W mb) σ H Q := by
  rintro σ H Q ⟨ρ, f, s, R, hm, hp⟩
  rw [hk] at hg
  have hx := xok hp
  refine tD_bind R hm hx fun x ρ1 v H1 hk1 R1 x1 hv => ?_
  refine tK_bind R1 hk1 hx fun y ρ2 u H2 hk2 R2 x2 hu => ?_
  obtain ⟨z, e, er⟩ := lift_inv hk2
  subst er
  exact hg (Bad G ρ2 f) H2 v u x y z Q (fun p hp => R2.free hp) (.inl (hv.ext x2)) hu e (fun p H3 s h0 ok => hp p H3 (.mk' R2 h0 s ok) ((x1.trans x2).trans (Ext.fresh h0 s)))
theorem un_imp {r : V → Hp → VK → Prop} {g : D → Option D} (hk : X.K = G.K) (hg : UnD X.K r g) : ∀ σ H Q, tD G W (M.un g ma) σ H Q → tK G W ma σ H (fun x H1 => r x H1 Q) := by
  rintro σ H Q ⟨ρ, f, s, R, hm, hp⟩
  rw [hk] at hg
  have hx := xok hp
  refine tK_bind R hm hx fun x ρ1 v H1 hk1 R1 x1 hv => ?_
  obtain ⟨z, e, er⟩ := lift_inv hk1
  subst er
  exact hg (Bad G ρ1 f) H1 v x z Q (fun p hp => R1.free hp) hv e (fun w H3 s hw => hp w H3 (R1.same s) (x1.trans (Ext.same s)) hw)
theorem unF_imp {r : V → Hp → VK → Prop} {g : D → Option Cell} (hk : X.K = G.K) (hg : UnF X.K r g) : ∀ σ H Q, tF G W (M.unF g ma) σ H Q → tK G W ma σ H (fun x H1 => r x H1 Q) := by
  rintro σ H Q ⟨ρ, f, s, R, hm, hp⟩
  rw [hk] at hg
  have hx := xok hp
  refine tK_bind R hm hx fun x ρ1 v H1 hk1 R1 x1 hv => ?_
  obtain ⟨z, e, er⟩ := lift_inv hk1
  subst er
  exact hg (Bad G ρ1 f) H1 v x z Q (fun p hp => R1.free hp) hv e (fun p H3 s h0 ok => hp p H3 (.mk' R1 h0 s ok) (x1.trans (Ext.fresh h0 s)))
theorem de_op {op : Operator} {r : R2} {g : D → D → Option D} (ho : OpR X (binaryOp op) r) (hg : OpD X.K r g) (ha : DE X G W a ma) (hb : DK X G W b mb) (hk : X.K = G.K := by rfl) : DE X G W (.BinOp a op b pos) (M.bin g ma mb) :=
  imp (pe_op ho ha hb) (bin_imp hk hg)
theorem df_op {op : Operator} {r : R2} {g : D → D → Option Cell} (ho : OpR X (binaryOp op) r) (hg : OpF X.K r g) (ha : DE X G W a ma) (hb : DK X G W b mb) (hk : X.K = G.K := by rfl) : DF X G W (.BinOp a op b pos) (M.binF g ma mb) :=
  imp (pe_op ho ha hb) (binF_imp hk hg)
theorem de_cmp {op : CmpOp} {r : R2} {g : D → D → Option D} (ho : OpR X (compareOp op) r) (hg : OpD X.K r g) (ha : DE X G W a ma) (hb : DK X G W b mb) (hm : behindInMarks op b = false) (hk : X.K = G.K := by rfl) : DE X G W (.Compare a [op] [b] pos) (M.bin g ma mb) :=
  imp (pe_cmpR ho ha hb hm) (bin_imp hk hg)
theorem de_unop {op : UnaryOp} {r : V → Hp → VK → Prop} {g : D → Option D} (ho : UnR X (unaryOp op) r) (hg : UnD X.K r g) (ha : DK X G W a ma) (hk : X.K = G.K := by rfl) : DE X G W (.UnaryOp op a pos) (M.un g ma) :=
  imp (pe_un ho ha) (un_imp hk hg)
theorem de_ixR {r : R2} {g : D → D → Option D} (hr : IxR X r) (hg : OpD X.K r g) (ha : DE X G W a ma) (hb : DK X G W b mb) (hs : PlainIx b := by exact fun _ _ => rfl) (hk : X.K = G.K := by rfl) : DE X G W (.Subscript a b pos) (M.bin g ma mb) :=
  imp (pe_ix hr ha hb hs) (bin_imp hk hg)
end

/-! ### + -/
def addD : D → D → Option D
  | .int i, .int j => some (.int (i + j))
  | .str i, .str j => if i.length + j.length ≤ 16777216 then some (.str (i ++ j)) else none
  | .tuple xs, .tuple ys => if xs.length + ys.length ≤ 16777216 then some (.tuple (xs ++ ys)) else none
  | .list xs, .list ys => if xs.length + ys.length ≤ 16777216 then some (.list (xs ++ ys)) else none
  | .int i, .bool b => some (.int (i + b2i b))
  | _, _ => none
def addF : D → D → Option Cell
  | .list xs, .list ys => if xs.length + ys.length ≤ 16777216 then some (.lst (xs ++ ys)) else none
  | _, _ => none
def rCatL (K : PySem.W.Frag) : R2 := fun x y H Q => ∃ l b xs zs, x = .ref l ∧ y = .ref b ∧ SqL K H l xs ∧ SqL K H b zs ∧ xs.length + zs.length ≤ sizeLine ∧ ∀ p, H p = none → Q (.ref p) (upd H p (.lst (xs ++ zs)))
section
variable {X : Cx}
theorem op_catL : OpR X (binaryOp .Add) (rCatL X.K) := by
  intro pins s σ H x y v u Q I rx ry h
  obtain ⟨l, b, xs, zs, rfl, rfl, hH, hB, hz, q⟩ := h
  cases rx
  cases ry
  obtain ⟨its, r, pl, z1⟩ := I.list hH
  obtain ⟨its2, r2, pl2, z2⟩ := I.list hB
  have hl := r.length
  have hl2 := r2.length
  obtain ⟨⟨cls, dd, data, sl⟩, ho, hc, n, hd⟩ := pl.isList
  obtain ⟨⟨cls2, dd2, data2, sl2⟩, ho2, hc2, n2, hd2⟩ := pl2.isList
  simp only at hc hd hc2 hd2
  subst hc hd hc2 hd2
  have ea : its.toArray ++ its2.toArray = (its ++ its2).toArray := by simp
  refine concat_meets ⟨_, ho, rfl⟩ ⟨_, ho2, rfl⟩ noFill_list_add seq_list_add PySem.F.slot_list_add PySem.F.entry_list_add (PySem.F.args_list_add_2 _ _)
    (list_addW l b its.toArray its2.toArray n n2 dd dd2 sl sl2 (by rw [List.size_toArray, List.size_toArray]; omega)) ⟨ho, ho2, ?_⟩
  rw [ea]
  exact ⟨.ref _, _, I.lnew (t' := s.toks) (r.append r2) (by rw [List.length_append]; omega), rfl, q _ I.fresh⟩
theorem of_catL {K : PySem.W.Frag} : OpF K (rCatL K) addF := by
  intro B H x y d e z Q hf hx hy hg hq
  cases d <;> cases e <;> try (simp [addF] at hg)
  rename_i xs ys
  obtain ⟨hl, rfl⟩ := hg
  obtain ⟨a, vs, rfl, r1, s1, h1⟩ := hx.lst
  obtain ⟨b, ws, rfl, r2, s2, h2⟩ := hy.lst
  refine ⟨a, b, vs, ws, rfl, rfl, s1, s2, by rw [h1.length, h2.length]; exact hl, fun p hp => hq p _ (same_upd hp) hp ⟨_, upd_same, ?_⟩⟩
  have x1 : Ext B H (fun a => B a ∨ a = p) (upd H p (.lst (vs ++ ws))) := fun c o hc ho => ⟨fun z => z.elim hc (ne_of_none ho hp), (same_upd hp) _ _ ho⟩
  exact (h1.ext x1).append (h2.ext x1)
def rAdd (K : PySem.W.Frag) : R2 := fun x y H Q => (rI0 fun i j => .int (i + j)) x y H Q ∨ (∃ i j, x = .str i ∧ y = .str j ∧ i.length + j.length ≤ sizeLine ∧ Q (.str (i ++ j)) H) ∨ rCatA K x y H Q ∨ rCatL K x y H Q ∨ (∃ i k, x = .int i ∧ y = .bl k ∧ Q (.int (i + b2i k)) H)
theorem op_addR : OpR X (binaryOp .Add) (rAdd X.K) := op_add.or (op_add_str.or (op_catA.or (op_catL.or op_add_ib)))
theorem od_add {K : PySem.W.Frag} : OpD K (rAdd K) addD := by
  intro B H x y d e z Q hf hx hy hg hq
  cases d <;> cases e <;> try (simp [addD] at hg)
  · subst hg
    exact .inr (.inr (.inr (.inr ⟨_, _, hx.int, hy.bl, hq _ H (Same.refl H) (.int _)⟩)))
  · subst hg
    exact .inl ⟨_, _, hx.int, hy.int, hq _ H (Same.refl H) (.int _)⟩
  · obtain ⟨hl, rfl⟩ := hg
    exact .inr (.inl ⟨_, _, hx.str, hy.str, hl, hq _ H (Same.refl H) (.str _)⟩)
  · obtain ⟨hl, rfl⟩ := hg
    rename_i xs ys
    refine .inr (.inr (.inr (.inl (of_catL (K := K) B H x y (.list xs) (.list ys) (.lst (xs ++ ys)) Q hf hx hy (by simp [addF, hl]) fun p H' s hp ok => ?_))))
    have ok' : CellOk K B H' p (.lst (xs ++ ys)) := ok.ext (fun a o h e => ⟨fun z => h (.inl z), e⟩) rfl
    exact hq _ H' s (ok'.has (hf p hp))
  · obtain ⟨hl, rfl⟩ := hg
    rename_i xs ys
    obtain ⟨a, vs, rfl, r1, s1, h1⟩ := hx.tup.tup_inv
    obtain ⟨b, ws, rfl, r2, s2, h2⟩ := hy.tup.tup_inv
    refine .inr (.inr (.inl ⟨a, b, vs, ws, rfl, rfl, s1, s2, by rw [h1.length, h2.length]; exact hl, fun e => ?_, fun e1 e2 => ?_, fun e1 e2 p hp => ?_⟩))
    · subst e
      have : xs = [] := List.eq_nil_of_length_eq_zero h1.length.symm
      subst this
      exact hq _ H (Same.refl H) (.tup r2 h2)
    · subst e2
      have : ys = [] := List.eq_nil_of_length_eq_zero h2.length.symm
      subst this
      rw [List.append_nil] at hq
      exact hq _ H (Same.refl H) (.tup r1 h1)
    · exact hq _ _ (same_upd hp) (.tup (.inl ⟨hf p hp, .inl upd_same⟩) ((h1.same (same_upd hp)).append (h2.same (same_upd hp))))
end
section
variable {X : Cx} {G : Gc} {W : WX} {a b e : Expr} {es : List Expr} {ma mb : M D} {pos : Pos}
theorem de_add (ha : DE X G W a ma) (hb : DK X G W b mb) (hk : X.K = G.K := by rfl) : DE X G W (.BinOp a .Add b pos) (M.bin addD ma mb) := de_op op_addR od_add ha hb hk
theorem df_add (ha : DE X G W a ma) (hb : DK X G W b mb) (hk : X.K = G.K := by rfl) : DF X G W (.BinOp a .Add b pos) (M.binF addF ma mb) := df_op op_catL of_catL ha hb hk
end
end DL
namespace DL
open PySem PySem.Spec PyProof.Rows L2

/-! ### ints -/
def intD (C : Int → Int → Bool) (g : Int → Int → Int) : D → D → Option D
  | .int i, .int j => if C i j = true then some (.int (g i j)) else none
  | _, _ => none
def intD0 (g : Int → Int → Int) : D → D → Option D
  | .int i, .int j => some (.int (g i j))
  | _, _ => none
theorem od_int {K : PySem.W.Frag} {C : Int → Int → Prop} {c : Int → Int → Bool} {g : Int → Int → Int} (h : ∀ i j, c i j = true → C i j) : OpD K (rI C fun i j => .int (g i j)) (intD c g) := by
  intro B H x y d e z Q hf hx hy hg hq
  cases d <;> cases e <;> try (simp [intD] at hg)
  obtain ⟨hc, rfl⟩ := hg
  exact ⟨_, _, hx.int, hy.int, h _ _ hc, hq _ H (Same.refl H) (.int _)⟩
theorem od_int0 {K : PySem.W.Frag} {g : Int → Int → Int} : OpD K (rI0 fun i j => .int (g i j)) (intD0 g) := by
  intro B H x y d e z Q hf hx hy hg hq
  cases d <;> cases e <;> try (simp [intD0] at hg)
  subst hg
  exact ⟨_, _, hx.int, hy.int, hq _ H (Same.refl H) (.int _)⟩
/-- divisors: positive, not too long -/
def okDiv (_ j : Int) : Bool := decide (0 < j) && decide (j.natAbs.log2 < 9000)
def okMod (_ j : Int) : Bool := decide (0 < j)
def okPow (i j : Int) : Bool := decide (0 ≤ j) && decide (j ≤ 1000000) && decide (i.natAbs < 2 ^ 64)
def okShr (_ j : Int) : Bool := decide (0 ≤ j)
def okMul (i j : Int) : Bool := decide (i.natAbs.log2 + j.natAbs.log2 < 1000000)
def subD := intD0 fun i j => i - j
def fdivD := intD okDiv fun i j => i / j
def modD := intD okMod fun i j => i % j
def powD := intD okPow fun i j => i ^ j.toNat
def shlD := intD okPow fun i j => i * 2 ^ j.toNat
def shrD := intD okShr fun i j => i / 2 ^ j.toNat
def andD := intD0 Builtin.bitAnd
def xorD := intD0 Builtin.bitXor
def orD := intD0 Builtin.bitOr

/-! ### * -/
def mulD : D → D → Option D
  | .int i, .int j => if okMul i j = true then some (.int (i * j)) else none
  | .list xs, .int k => if -(2 ^ 62) ≤ k ∧ k < 2 ^ 62 ∧ xs.length * k.toNat ≤ 16777216 then some (.list (List.replicate k.toNat xs).flatten) else none
  | .tuple xs, .int k => if xs ≠ [] ∧ 2 ≤ k ∧ k ≤ 1000 ∧ xs.length ≤ 1000 then some (.tuple (List.replicate k.toNat xs).flatten) else none
  | _, _ => none
def mulF : D → D → Option Cell
  | .list xs, .int k => if -(2 ^ 62) ≤ k ∧ k < 2 ^ 62 ∧ xs.length * k.toNat ≤ 16777216 then some (.lst (List.replicate k.toNat xs).flatten) else none
  | _, _ => none
theorem HasL.rep {K : PySem.W.Frag} {B : Addr → Prop} {H : Hp} {vs : List V} {ds : List D} (h : HasL K B H vs ds) : ∀ n : Nat, HasL K B H (List.replicate n vs).flatten (List.replicate n ds).flatten
  | 0 => .nil
  | n + 1 => by
    rw [List.replicate_succ, List.replicate_succ, List.flatten_cons, List.flatten_cons]
    exact h.append (HasL.rep h n)
theorem rep_len {α : Type} (xs : List α) : ∀ n : Nat, (List.replicate n xs).flatten.length = xs.length * n
  | 0 => by simp
  | n + 1 => by
    rw [List.replicate_succ, List.flatten_cons, List.length_append, rep_len xs n, Nat.mul_succ]
    omega
/-! ### comparisons of data -/
def eqD (d e : D) : Option D := if okD 60 d = true ∧ okD 60 e = true then some (.bool (PyData.eqv d e)) else none
def neD (d e : D) : Option D := if okD 60 d = true ∧ okD 60 e = true then some (.bool (!PyData.eqv d e)) else none
/-- they may be asked for < -/
def cmpOk (d e : D) : Bool := okD 60 d && okD 60 e && PySem.W.alike d e && (match d with | .none => false | _ => true)
def ltD (d e : D) : Option D := if cmpOk d e = true then some (.bool (PySem.W.dataLt d e)) else none
def gtD (d e : D) : Option D := if cmpOk d e = true then some (.bool (PySem.W.dataLt e d)) else none
def leD (d e : D) : Option D := if cmpOk d e = true then some (.bool (!PySem.W.dataLt e d)) else none
def geD (d e : D) : Option D := if cmpOk d e = true then some (.bool (!PySem.W.dataLt d e)) else none
/-- the reading that says just that -/
def rOpD (K : PySem.W.Frag) (g : D → D → Option D) : R2 := fun x y H Q => ∃ (B : Addr → Prop) (d e z : D), (∀ p, H p = none → ¬ B p) ∧ HasK K B H x d ∧ HasK K B H y e ∧ g d e = some z ∧ ∀ v H', Same H H' → Has K B H' v z → Q v H'
theorem od_r {K : PySem.W.Frag} {g : D → D → Option D} : OpD K (rOpD K g) g := fun B _ _ _ d e z _ hf hx hy hg hq => ⟨B, d, e, z, hf, hx, hy, hg, hq⟩
def rUnD (K : PySem.W.Frag) (g : D → Option D) : V → Hp → VK → Prop := fun x H Q => ∃ (B : Addr → Prop) (d z : D), (∀ p, H p = none → ¬ B p) ∧ HasK K B H x d ∧ g d = some z ∧ ∀ v H', Same H H' → Has K B H' v z → Q v H'
theorem ud_r {K : PySem.W.Frag} {g : D → Option D} : UnD K (rUnD K g) g := fun B _ _ d z _ hf hx hg hq => ⟨B, d, z, hf, hx, hg, hq⟩
def rUnF (K : PySem.W.Frag) (g : D → Option Cell) : V → Hp → VK → Prop := fun x H Q => ∃ (B : Addr → Prop) (d : D) (z : Cell), (∀ p, H p = none → ¬ B p) ∧ HasK K B H x d ∧ g d = some z ∧ ∀ p H', Same H H' → H p = none → CellOk K (fun a => B a ∨ a = p) H' p z → Q (.ref p) H'
theorem uf_r {K : PySem.W.Frag} {g : D → Option Cell} : UnF K (rUnF K g) g := fun B _ _ d z _ hf hx hg hq => ⟨B, d, z, hf, hx, hg, hq⟩

section
variable {X : Cx} {pins : List (Addr × Obj)} {σ : L2.St} {H : Hp} {s : Shared} {B : Addr → Prop} {x : V} {v : Value} {d : D}
theorem HasK.reads (I : Inv X pins σ H s) (h : HasK X.K B H x d) (hd : okD 60 d = true) (r : RelV x v) : ∃ as, Reads s.heap v d as := Dp.reads I d x v (h.dp (okD_spec hd).1) r
theorem end_bl {Q : VK} {k : Bool} {z : D} (I : Inv X pins σ H s) (e : z = .bool k) (q : ∀ v H', Same H H' → Has X.K B H' v z → Q v H') : EP X pins σ Q (.bool k) s := by
  subst e
  exact ⟨.bl k, H, I, rfl, q _ H (Same.refl H) (.bl k)⟩
theorem op_eqR (hu : X.A.units + 64 < cLine) : OpR X (compareOp .Eq) (rOpD X.K eqD) := by
  intro pins s σ H x y v u Q I rx ry ⟨B, d, e, z, hf, hx, hy, hg, q⟩
  unfold eqD at hg
  split at hg
  · rename_i ho
    obtain ⟨as, r1⟩ := hx.reads I ho.1 rx
    obtain ⟨bs, r2⟩ := hy.reads I ho.2 ry
    have d1 := (okD_spec ho.1).2
    exact SeqAt.eq_plain r1 r2 (okD_spec ho.1).1 (okD_spec ho.2).1 (by have := Nat.min_le_left d.depth e.depth; omega) (end_bl I (Option.some.inj hg).symm q)
  · cases hg
theorem op_neR (hu : X.A.units + 64 < cLine) : OpR X (compareOp .NotEq) (rOpD X.K neD) := by
  intro pins s σ H x y v u Q I rx ry ⟨B, d, e, z, hf, hx, hy, hg, q⟩
  unfold neD at hg
  split at hg
  · rename_i ho
    obtain ⟨as, r1⟩ := hx.reads I ho.1 rx
    obtain ⟨bs, r2⟩ := hy.reads I ho.2 ry
    have d1 := (okD_spec ho.1).2
    exact SeqAt.ne_plain r1 r2 (okD_spec ho.1).1 (okD_spec ho.2).1 (by have := Nat.min_le_left d.depth e.depth; omega) (end_bl I (Option.some.inj hg).symm q)
  · cases hg
theorem cmpOk_spec {d e : D} (h : cmpOk d e = true) : okD 60 d = true ∧ okD 60 e = true ∧ PySem.W.alike d e = true ∧ d ≠ .none := by
  simp only [cmpOk, Bool.and_eq_true] at h
  obtain ⟨⟨⟨h1, h2⟩, h3⟩, h4⟩ := h
  refine ⟨h1, h2, h3, fun e => ?_⟩
  subst e
  simp at h4
theorem op_ltR (hu : X.A.units + 64 < cLine) : OpR X (compareOp .Lt) (rOpD X.K ltD) := by
  intro pins s σ H x y v u Q I rx ry ⟨B, d, e, z, hf, hx, hy, hg, q⟩
  unfold ltD at hg
  split at hg
  · rename_i ho
    obtain ⟨o1, o2, o3, o4⟩ := cmpOk_spec ho
    obtain ⟨as, r1⟩ := hx.reads I o1 rx
    obtain ⟨bs, r2⟩ := hy.reads I o2 ry
    have d1 := (okD_spec o1).2
    exact PySem.W.lt_data r1 r2 o3 o4 (by have := Nat.min_le_left d.depth e.depth; omega) (end_bl I (Option.some.inj hg).symm q)
  · cases hg
theorem op_gtR (hu : X.A.units + 64 < cLine) : OpR X (compareOp .Gt) (rOpD X.K gtD) := by
  intro pins s σ H x y v u Q I rx ry ⟨B, d, e, z, hf, hx, hy, hg, q⟩
  unfold gtD at hg
  split at hg
  · rename_i ho
    obtain ⟨o1, o2, o3, o4⟩ := cmpOk_spec ho
    obtain ⟨as, r1⟩ := hx.reads I o1 rx
    obtain ⟨bs, r2⟩ := hy.reads I o2 ry
    have d1 := (okD_spec o1).2
    exact PySem.W.gt_data r1 r2 o3 o4 (by have := Nat.min_le_left d.depth e.depth; omega) (end_bl I (Option.some.inj hg).symm q)
  · cases hg
theorem op_leR (hu : X.A.units + 64 < cLine) : OpR X (compareOp .LtE) (rOpD X.K leD) := by
  intro pins s σ H x y v u Q I rx ry ⟨B, d, e, z, hf, hx, hy, hg, q⟩
  unfold leD at hg
  split at hg
  · rename_i ho
    obtain ⟨o1, o2, o3, o4⟩ := cmpOk_spec ho
    obtain ⟨as, r1⟩ := hx.reads I o1 rx
    obtain ⟨bs, r2⟩ := hy.reads I o2 ry
    have d1 := (okD_spec o1).2
    exact PySem.W.le_data r1 r2 o3 o4 (by have := Nat.min_le_left d.depth e.depth; omega) (end_bl I (Option.some.inj hg).symm q)
  · cases hg
theorem op_geR (hu : X.A.units + 64 < cLine) : OpR X (compareOp .GtE) (rOpD X.K geD) := by
  intro pins s σ H x y v u Q I rx ry ⟨B, d, e, z, hf, hx, hy, hg, q⟩
  unfold geD at hg
  split at hg
  · rename_i ho
    obtain ⟨o1, o2, o3, o4⟩ := cmpOk_spec ho
    obtain ⟨as, r1⟩ := hx.reads I o1 rx
    obtain ⟨bs, r2⟩ := hy.reads I o2 ry
    have d1 := (okD_spec o1).2
    exact PySem.W.ge_data r1 r2 o3 o4 (by have := Nat.min_le_left d.depth e.depth; omega) (end_bl I (Option.some.inj hg).symm q)
  · cases hg
end

/-! ### in, not in -/
def inD (d e : D) : Option D := match e with
  | .list xs => if okD 60 d = true ∧ okD 60 (.list xs) = true then some (.bool (xs.any fun y => PyData.eqv y d)) else none
  | .tuple xs => if okD 60 d = true ∧ okD 60 (.tuple xs) = true then some (.bool (xs.any fun y => PyData.eqv y d)) else none
  | .str z => match d with
    | .str y => some (.bool (!(Builtin.Str.occurrences z y 0 z.length 1).isEmpty))
    | _ => none
  | _ => none
def notD (o : Option D) : Option D := match o with
  | some (.bool b) => some (.bool (!b))
  | _ => none
def ninD (d e : D) : Option D := notD (inD d e)
section
variable {X : Cx} {pins : List (Addr × Obj)} {σ : L2.St} {H : Hp} {s : Shared} {B : Addr → Prop} {x : V} {v : Value} {d : D}
theorem okD_seq {n : Nat} {xs : List D} (h : okD (n + 1) (.list xs) = true) : PyData.plainAll xs = true ∧ PyData.depthAll xs ≤ n := by
  simp only [okD, List.all_eq_true] at h
  exact ⟨plainAll_of fun d hd => (okD_spec (h d hd)).1, depthAll_of fun d hd => (okD_spec (h d hd)).2⟩
theorem op_inR (hu : X.A.units + 70 < cLine) : OpR X (compareOp .In) (rOpD X.K inD) := by
  intro pins s σ H x y v u Q I rx ry ⟨B, d, e, z, hf, hx, hy, hg, q⟩
  cases e with
  | list xs =>
    simp only [inD] at hg
    split at hg
    · rename_i ho
      obtain ⟨as, r1⟩ := hx.reads I ho.1 rx
      obtain ⟨bs, r2⟩ := hy.reads I ho.2 ry
      have o2 := okD_seq ho.2
      have d1 := (okD_spec ho.1).2
      exact SeqAt.in_list_data r2 r1 o2.1 (okD_spec ho.1).1 (by have := Nat.min_le_right (PyData.depthAll xs) d.depth; omega) (end_bl I (Option.some.inj hg).symm q)
    · cases hg
  | tuple xs =>
    simp only [inD] at hg
    split at hg
    · rename_i ho
      obtain ⟨as, r1⟩ := hx.reads I ho.1 rx
      obtain ⟨bs, r2⟩ := hy.reads I ho.2 ry
      have o2 := okD_seq (n := 59) (xs := xs) ho.2
      have d1 := (okD_spec ho.1).2
      exact SeqAt.in_tuple_data r2 r1 o2.1 (okD_spec ho.1).1 (by have := Nat.min_le_right (PyData.depthAll xs) d.depth; omega) (end_bl I (Option.some.inj hg).symm q)
    · cases hg
  | str w =>
    cases d with
    | str y' => exact op_in_str pins s σ H x y v u Q I rx ry ⟨y', w, hx.str, hy.str, by
        cases hg
        exact q _ H (Same.refl H) (.bl _)⟩
    | _ => cases hg
  | _ => cases hg
theorem op_ninR (hu : X.A.units + 70 < cLine) : OpR X (compareOp .NotIn) (rOpD X.K ninD) := by
  intro pins s σ H x y v u Q I rx ry ⟨B, d, e, z, hf, hx, hy, hg, q⟩
  cases e with
  | list xs =>
    simp only [ninD, inD] at hg
    split at hg
    · rename_i ho
      obtain ⟨as, r1⟩ := hx.reads I ho.1 rx
      obtain ⟨bs, r2⟩ := hy.reads I ho.2 ry
      have o2 := okD_seq ho.2
      have d1 := (okD_spec ho.1).2
      exact SeqAt.notIn_list_data r2 r1 o2.1 (okD_spec ho.1).1 (by have := Nat.min_le_right (PyData.depthAll xs) d.depth; omega) (end_bl I (Option.some.inj hg).symm q)
    · cases hg
  | tuple xs =>
    simp only [ninD, inD] at hg
    split at hg
    · rename_i ho
      obtain ⟨as, r1⟩ := hx.reads I ho.1 rx
      obtain ⟨bs, r2⟩ := hy.reads I ho.2 ry
      have o2 := okD_seq (n := 59) (xs := xs) ho.2
      have d1 := (okD_spec ho.1).2
      exact SeqAt.notIn_tuple_data r2 r1 o2.1 (okD_spec ho.1).1 (by have := Nat.min_le_right (PyData.depthAll xs) d.depth; omega) (end_bl I (Option.some.inj hg).symm q)
    · cases hg
  | str w =>
    cases d with
    | str y' => exact op_notin_str pins s σ H x y v u Q I rx ry ⟨y', w, hx.str, hy.str, by
        cases hg
        exact q _ H (Same.refl H) (.bl _)⟩
    | _ => cases hg
  | _ => cases hg

/-! ### is, is not: against None, True, False -/
def isNoneD : D → Bool
  | .none => true
  | _ => false
def isBoolD (b : Bool) : D → Bool
  | .bool a => a == b
  | _ => false
def isD (d e : D) : Option D := match e with
  | .none => some (.bool (isNoneD d))
  | .bool b => some (.bool (isBoolD b d))
  | _ => none
def nisD (d e : D) : Option D := notD (isD d e)
theorem HasK.isN {K : PySem.W.Frag} {x : V} {d : D} (h : HasK K B H x d) : decide (x = .non) = isNoneD d := by
  rcases h with h | ⟨p, c, rfl, ok, e⟩
  · cases h <;> rfl
  · subst e
    cases c <;> rfl
/-- a value that stands for no truth value is none -/
theorem HasK.isB {K : PySem.W.Frag} {x : V} {d : D} {v : Value} (h : HasK K B H x d) (r : RelV x v) (b : Bool) : plainIs v (.bool b) = true ∧ (v == .bool b) = isBoolD b d := by
  rcases h with h | ⟨p, c, rfl, ok, e⟩
  · cases h with
    | non => cases r; exact ⟨rfl, rfl⟩
    | bl a => cases r; exact ⟨rfl, by cases a <;> cases b <;> rfl⟩
    | int i => obtain ⟨t, rfl⟩ := r; exact ⟨rfl, rfl⟩
    | str i => obtain ⟨t, rfl⟩ := r; exact ⟨rfl, rfl⟩
    | lst _ _ => cases r; exact ⟨rfl, rfl⟩
    | tup _ _ => cases r; exact ⟨rfl, rfl⟩
    | dK _ _ _ _ _ => cases r; exact ⟨rfl, rfl⟩
    | dT _ _ _ _ _ => cases r; exact ⟨rfl, rfl⟩
  · subst e
    cases r
    cases c <;> exact ⟨rfl, rfl⟩
theorem op_isR : OpR X (compareOp .Is) (rOpD X.K isD) := by
  intro pins s σ H x y v u Q I rx ry ⟨B, d, e, z, hf, hx, hy, hg, q⟩
  cases e with
  | none =>
    have ey := hy.non
    subst ey
    cases ry
    refine is_none_gen (end_bl I ?_ q)
    rw [rx.none_iff, hx.isN]
    exact (Option.some.inj hg).symm
  | bool b =>
    have ey := hy.bl
    subst ey
    cases ry
    obtain ⟨h1, h2⟩ := hx.isB rx b
    refine wpAny_is_plain h1 (end_bl I ?_ q)
    rw [h2]
    exact (Option.some.inj hg).symm
  | _ => cases hg
theorem op_nisR : OpR X (compareOp .IsNot) (rOpD X.K nisD) := by
  intro pins s σ H x y v u Q I rx ry ⟨B, d, e, z, hf, hx, hy, hg, q⟩
  cases e with
  | none =>
    have ey := hy.non
    subst ey
    cases ry
    refine isnot_none_gen (end_bl I ?_ q)
    rw [rx.none_iff, hx.isN]
    exact (Option.some.inj hg).symm
  | bool b =>
    have ey := hy.bl
    subst ey
    cases ry
    obtain ⟨h1, h2⟩ := hx.isB rx b
    refine wpAny_isNot_plain h1 (end_bl I ?_ q)
    rw [h2]
    exact (Option.some.inj hg).symm
  | _ => cases hg
end

/-! ### xs[i] -/
def strAt (z : Str) (i : Int) : Option D := if z.length ≤ 16777216 then (atI z.cps.toList i).map fun c => PyData.str ⟨#[c]⟩ else none
def ixD : D → D → Option D
  | .list xs, .int i => atI xs i
  | .tuple xs, .int i => atI xs i
  | .str z, .int i => strAt z i
  | _, _ => none
theorem HasL.atI {K : PySem.W.Frag} {B : Addr → Prop} {H : Hp} {vs : List V} {ds : List D} (h : HasL K B H vs ds) {i : Int} {d : D} (e : L2.atI ds i = some d) : ∃ v, L2.atI vs i = some v ∧ Has K B H v d := by
  unfold L2.atI at e ⊢
  rw [h.length]
  cases hj : ixN ds.length i with
  | none => rw [hj] at e; cases e
  | some j =>
    rw [hj] at e
    exact h.get e
theorem od_ix {K : PySem.W.Frag} : OpD K (rIx K) ixD := by
  intro B H x y d e z Q hf hx hy hg hq
  cases d <;> cases e <;> try (simp [ixD] at hg)
  · rename_i w i
    unfold strAt at hg
    split at hg
    · rename_i hl
      cases hc : L2.atI w.cps.toList i with
      | none => rw [hc] at hg; cases hg
      | some c =>
        rw [hc] at hg
        cases hg
        exact .inr (.inr ⟨w, i, c, hx.str, hy.int, hl, hc, hq _ H (Same.refl H) (.str _)⟩)
    · cases hg
  · rename_i xs i
    obtain ⟨a, vs, rfl, r1, s1, h1⟩ := hx.lst
    obtain ⟨v, e1, hv⟩ := h1.atI hg
    exact .inl ⟨a, vs, i, v, rfl, hy.int, s1, e1, hq v H (Same.refl H) hv⟩
  · rename_i xs i
    obtain ⟨a, vs, rfl, r1, s1, h1⟩ := hx.tup.tup_inv
    obtain ⟨v, e1, hv⟩ := h1.atI hg
    exact .inr (.inl ⟨a, vs, i, v, rfl, hy.int, s1, e1, hq v H (Same.refl H) hv⟩)

/-! ### xs[a:b] -/
def cutD {α : Type} (xs : List α) (lo hi : Option Int) : List α := (xs.drop (HT.sIx xs.length 0 lo)).take (HT.sIx xs.length xs.length hi - HT.sIx xs.length 0 lo)
def slD : D → Option Int → Option Int → Option D
  | .list xs, lo, hi => some (.list (cutD xs lo hi))
  | .tuple xs, lo, hi => some (.tuple (cutD xs lo hi))
  | .str z, lo, hi => if z.length ≤ 16777216 then some (.str (cutS z lo hi)) else none
  | _, _, _ => none
def slF : D → Option Int → Option Int → Option Cell
  | .list xs, lo, hi => some (.lst (cutD xs lo hi))
  | _, _, _ => none
theorem HasL.cut {K : PySem.W.Frag} {B : Addr → Prop} {H : Hp} {vs : List V} {ds : List D} (h : HasL K B H vs ds) (lo hi : Option Int) : HasL K B H (cutV vs lo hi) (cutD ds lo hi) := by
  unfold cutV cutD
  rw [h.length]
  exact (h.drop _).take _
theorem cutD_whole {α : Type} (xs : List α) (lo hi : Option Int) (h : HT.sIx xs.length 0 lo = 0 ∧ HT.sIx xs.length xs.length hi = xs.length) : cutD xs lo hi = xs := by
  unfold cutD
  rw [h.1, h.2]
  simp
def rSl (K : PySem.W.Frag) : V → Option Int → Option Int → Hp → VK → Prop := fun x lo hi H Q => rSlL K x lo hi H Q ∨ rSlA K x lo hi H Q ∨ rSlS x lo hi H Q
theorem sl_any {X : Cx} : SlR X (rSl X.K) := sl_list.or (sl_tupA.or sl_str)
def SlD (K : PySem.W.Frag) (r : V → Option Int → Option Int → Hp → VK → Prop) (g : D → Option Int → Option Int → Option D) : Prop :=
  ∀ (B : Addr → Prop) (H : Hp) (x : V) (lo hi : Option Int) (d z : D) (Q : VK), (∀ p, H p = none → ¬ B p) → HasK K B H x d → g d lo hi = some z → (∀ v H', Same H H' → Has K B H' v z → Q v H') → r x lo hi H Q
def SlF (K : PySem.W.Frag) (r : V → Option Int → Option Int → Hp → VK → Prop) (g : D → Option Int → Option Int → Option Cell) : Prop :=
  ∀ (B : Addr → Prop) (H : Hp) (x : V) (lo hi : Option Int) (d : D) (z : Cell) (Q : VK), (∀ p, H p = none → ¬ B p) → HasK K B H x d → g d lo hi = some z →
    (∀ p H', Same H H' → H p = none → CellOk K (fun a => B a ∨ a = p) H' p z → Q (.ref p) H') → r x lo hi H Q
theorem sf_sl {K : PySem.W.Frag} : SlF K (rSlL K) slF := by
  intro B H x lo hi d z Q hf hx hg hq
  cases d <;> try (simp [slF] at hg)
  subst hg
  obtain ⟨a, vs, rfl, r1, s1, h1⟩ := hx.lst
  refine ⟨a, vs, rfl, s1, fun p hp => hq p _ (same_upd hp) hp ⟨_, upd_same, ?_⟩⟩
  have x1 : Ext B H (fun a => B a ∨ a = p) (upd H p (.lst (cutV vs lo hi))) := fun c o hc ho => ⟨fun z => z.elim hc (ne_of_none ho hp), (same_upd hp) _ _ ho⟩
  exact (h1.ext x1).cut lo hi
theorem sd_sl {K : PySem.W.Frag} : SlD K (rSl K) slD := by
  intro B H x lo hi d z Q hf hx hg hq
  cases d <;> try (simp [slD] at hg)
  · obtain ⟨hl, rfl⟩ := hg
    exact .inr (.inr ⟨_, hx.str, hl, hq _ H (Same.refl H) (.str _)⟩)
  · subst hg
    rename_i xs
    refine .inl (sf_sl B H x lo hi (.list xs) (.lst (cutD xs lo hi)) Q hf hx rfl fun p H' s hp ok => ?_)
    have ok' : CellOk K B H' p (.lst (cutD xs lo hi)) := ok.ext (fun a o h e => ⟨fun z => h (.inl z), e⟩) rfl
    exact hq _ H' s (ok'.has (hf p hp))
  · subst hg
    rename_i xs
    obtain ⟨a, vs, rfl, r1, s1, h1⟩ := hx.tup.tup_inv
    refine .inr (.inl ⟨a, vs, rfl, s1, fun hw => ?_, fun hw p hp => hq _ _ (same_upd hp) (.tup (.inl ⟨hf p hp, .inl upd_same⟩) ((h1.same (same_upd hp)).cut lo hi))⟩)
    rw [h1.length] at hw
    rw [cutD_whole xs lo hi hw] at hq
    exact hq _ H (Same.refl H) (.tup r1 h1)
/-- a slice's part -/
def M.part (m : M D) : M (Option Int) := m.bind fun d => match d with
  | .int i => .ret (some i)
  | _ => fun _ => none
section
variable {X : Cx} {G : Gc} {W : WX} {a b e : Expr} {es : List Expr} {ma mb : M D} {pos p2 : Pos} {lo hi : Option Expr} {ml mh : M (Option Int)}
def tPt (G : Gc) (W : WX) (m : M (Option Int)) : TO := fun σ H Q => ∃ ρ f r, Rel G σ H ρ f ∧ m ρ = some r ∧
  Out r (fun o ρ' => ∀ H', Rel G σ H' ρ' f → Ext (Bad G ρ f) H (Bad G ρ' f) H' → Q o H') (fun c ρ' => XP G W σ c ρ' f)
abbrev DP (X : Cx) (G : Gc) (W : WX) (e : Option Expr) (m : M (Option Int)) : Prop := PO X e (tPt G W m)
theorem impO {t t' : TO} (h : PO X lo t) (w : ∀ σ H Q, t' σ H Q → t σ H Q) : PO X lo t' := ⟨fun pins s σ H Q I hq => h.run pins s σ H Q I (w σ H Q hq)⟩
theorem dp_none : DP X G W none (M.ret none) := impO po_none fun σ H Q ⟨ρ, f, r, R, hm, hp⟩ => by
  cases (Option.some.inj hm)
  exact hp H R (Ext.refl _ _)
theorem dp_some (h : DE X G W e ma) : DP X G W (some e) (M.part ma) := impO (po_some h) fun σ H Q ⟨ρ, f, r, R, hm, hp⟩ => by
  refine tD_bind R hm (xok hp) fun d ρ1 v H1 hk R1 x1 hv => ?_
  cases d <;> try (cases hk)
  exact ⟨_, hv.int_inv, hp H1 R1 x1⟩
theorem tP_bind {α : Type} {m : M (Option Int)} {k : Option Int → M α} {ρ : Rho} {f : Nat → Addr} {r : R α} {σ : L2.St} {H : Hp} {Q : Option Int → Hp → Prop} (Rl : Rel G σ H ρ f) (h : M.bind m k ρ = some r) (hx : ∀ c ρ', r = .exc c ρ' → XP G W σ c ρ' f)
    (hk : ∀ d ρ' H', k d ρ' = some r → Rel G σ H' ρ' f → Ext (Bad G ρ f) H (Bad G ρ' f) H' → Q d H') : tPt G W m σ H Q := by
  rcases bind_inv h with ⟨c, ρ', e1, e2⟩ | ⟨d, ρ', e1, e2⟩
  · exact ⟨ρ, f, _, Rl, e1, hx c ρ' e2⟩
  · exact ⟨ρ, f, _, Rl, e1, fun H' R' x => hk d ρ' H' e2 R' x⟩
def M.sl (ma : M D) (ml mh : M (Option Int)) : M D := ma.bind fun x => ml.bind fun l => mh.bind fun h => .lift (slD x l h)
def M.slF (ma : M D) (ml mh : M (Option Int)) : M Cell := ma.bind fun x => ml.bind fun l => mh.bind fun h => .lift (DL.slF x l h)
theorem de_slice (ha : DE X G W a ma) (hl : DP X G W lo ml) (hh : DP X G W hi mh) (hk : X.K = G.K := by rfl) : DE X G W (.Subscript a (.Slice lo hi none p2) pos) (M.sl ma ml mh) := by
  refine imp (pe_slice sl_any ha hl hh) ?_
  rintro σ H Q ⟨ρ, f, s, R, hm, hp⟩
  have hx := xok hp
  refine tD_bind R hm hx fun x ρ1 v H1 hk1 R1 x1 hv => ?_
  refine tP_bind R1 hk1 hx fun l ρ2 H2 hk2 R2 x2 => ?_
  refine tP_bind R2 hk2 hx fun h ρ3 H3 hk3 R3 x3 => ?_
  obtain ⟨z, e, er⟩ := lift_inv hk3
  subst er
  rw [hk]
  exact sd_sl (Bad G ρ3 f) H3 v l h x z Q (fun p hp => R3.free hp) (.inl ((hv.ext x2).ext x3)) e (fun w H4 s hw => hp w H4 (R3.same s) (((x1.trans x2).trans x3).trans (Ext.same s)) hw)
theorem df_slice (ha : DE X G W a ma) (hl : DP X G W lo ml) (hh : DP X G W hi mh) (hk : X.K = G.K := by rfl) : DF X G W (.Subscript a (.Slice lo hi none p2) pos) (M.slF ma ml mh) := by
  refine imp (pe_slice sl_list ha hl hh) ?_
  rintro σ H Q ⟨ρ, f, s, R, hm, hp⟩
  have hx := xok hp
  refine tD_bind R hm hx fun x ρ1 v H1 hk1 R1 x1 hv => ?_
  refine tP_bind R1 hk1 hx fun l ρ2 H2 hk2 R2 x2 => ?_
  refine tP_bind R2 hk2 hx fun h ρ3 H3 hk3 R3 x3 => ?_
  obtain ⟨z, e, er⟩ := lift_inv hk3
  subst er
  rw [hk]
  exact sf_sl (Bad G ρ3 f) H3 v l h x z Q (fun p hp => R3.free hp) (.inl ((hv.ext x2).ext x3)) e (fun p H4 s h0 ok => hp p H4 (.mk' R3 h0 s ok) (((x1.trans x2).trans x3).trans (Ext.fresh h0 s)))
end
section
variable {X : Cx} {G : Gc} {W : WX} {a b e : Expr} {es : List Expr} {ma mb : M D} {pos : Pos} {k : Nat}
theorem de_sub (ha : DE X G W a ma) (hb : DK X G W b mb) (hk : X.K = G.K := by rfl) : DE X G W (.BinOp a .Sub b pos) (M.bin subD ma mb) := de_op op_sub od_int0 ha hb hk
theorem de_fdiv (ha : DE X G W a ma) (hb : DK X G W b mb) (hk : X.K = G.K := by rfl) : DE X G W (.BinOp a .FloorDiv b pos) (M.bin fdivD ma mb) := de_op op_fdivW (od_int fun i j h => by simpa [okDiv, CDivW] using h) ha hb hk
theorem de_mod (ha : DE X G W a ma) (hb : DK X G W b mb) (hk : X.K = G.K := by rfl) : DE X G W (.BinOp a .Mod b pos) (M.bin modD ma mb) := de_op op_mod (od_int fun i j h => by simpa [okMod] using h) ha hb hk
theorem de_pow (ha : DE X G W a ma) (hb : DK X G W b mb) (hk : X.K = G.K := by rfl) : DE X G W (.BinOp a .Pow b pos) (M.bin powD ma mb) := de_op op_pow (od_int fun i j h => by simpa [okPow, CPow, and_assoc] using h) ha hb hk
theorem de_shl (ha : DE X G W a ma) (hb : DK X G W b mb) (hk : X.K = G.K := by rfl) : DE X G W (.BinOp a .LShift b pos) (M.bin shlD ma mb) := de_op op_shl (od_int fun i j h => by simpa [okPow, CPow, and_assoc] using h) ha hb hk
theorem de_shr (ha : DE X G W a ma) (hb : DK X G W b mb) (hk : X.K = G.K := by rfl) : DE X G W (.BinOp a .RShift b pos) (M.bin shrD ma mb) := de_op op_shr (od_int fun i j h => by simpa [okShr] using h) ha hb hk
theorem de_band (ha : DE X G W a ma) (hb : DK X G W b mb) (hk : X.K = G.K := by rfl) : DE X G W (.BinOp a .BitAnd b pos) (M.bin andD ma mb) := de_op op_and od_int0 ha hb hk
theorem de_xor (ha : DE X G W a ma) (hb : DK X G W b mb) (hk : X.K = G.K := by rfl) : DE X G W (.BinOp a .BitXor b pos) (M.bin xorD ma mb) := de_op op_xor od_int0 ha hb hk
def negD : D → Option D
  | .int i => some (.int (-i))
  | _ => none
theorem ud_neg {K : PySem.W.Frag} : UnD K (rU fun i => .int (-i)) negD := by
  intro B H x d z Q hf hx hg hq
  cases d <;> try (simp [negD] at hg)
  subst hg
  exact ⟨_, hx.int, hq _ H (Same.refl H) (.int _)⟩
theorem de_neg (ha : DK X G W a ma) (hk : X.K = G.K := by rfl) : DE X G W (.UnaryOp .USub a pos) (M.un negD ma) := de_unop un_neg ud_neg ha hk
theorem units64 (hr : Room k X.A) : X.A.units + 64 < cLine := hr.units
theorem units70 (hr : Room k X.A) : X.A.units + 70 < cLine := by have := hr.un; omega
theorem de_eq (hr : Room k X.A) (ha : DE X G W a ma) (hb : DK X G W b mb) (hk : X.K = G.K := by rfl) : DE X G W (.Compare a [.Eq] [b] pos) (M.bin eqD ma mb) := de_cmp (op_eqR (units64 hr)) od_r ha hb (nomark _) hk
theorem de_ne (hr : Room k X.A) (ha : DE X G W a ma) (hb : DK X G W b mb) (hk : X.K = G.K := by rfl) : DE X G W (.Compare a [.NotEq] [b] pos) (M.bin neD ma mb) := de_cmp (op_neR (units64 hr)) od_r ha hb (nomark _) hk
theorem de_lt (hr : Room k X.A) (ha : DE X G W a ma) (hb : DK X G W b mb) (hk : X.K = G.K := by rfl) : DE X G W (.Compare a [.Lt] [b] pos) (M.bin ltD ma mb) := de_cmp (op_ltR (units64 hr)) od_r ha hb (nomark _) hk
theorem de_gt (hr : Room k X.A) (ha : DE X G W a ma) (hb : DK X G W b mb) (hk : X.K = G.K := by rfl) : DE X G W (.Compare a [.Gt] [b] pos) (M.bin gtD ma mb) := de_cmp (op_gtR (units64 hr)) od_r ha hb (nomark _) hk
theorem de_le (hr : Room k X.A) (ha : DE X G W a ma) (hb : DK X G W b mb) (hk : X.K = G.K := by rfl) : DE X G W (.Compare a [.LtE] [b] pos) (M.bin leD ma mb) := de_cmp (op_leR (units64 hr)) od_r ha hb (nomark _) hk
theorem de_ge (hr : Room k X.A) (ha : DE X G W a ma) (hb : DK X G W b mb) (hk : X.K = G.K := by rfl) : DE X G W (.Compare a [.GtE] [b] pos) (M.bin geD ma mb) := de_cmp (op_geR (units64 hr)) od_r ha hb (nomark _) hk
theorem de_in (hr : Room k X.A) (ha : DE X G W a ma) (hb : DK X G W b mb) (hm : behindInMarks .In b = false := by rfl) (hk : X.K = G.K := by rfl) : DE X G W (.Compare a [.In] [b] pos) (M.bin inD ma mb) := de_cmp (op_inR (units70 hr)) od_r ha hb hm hk
theorem de_nin (hr : Room k X.A) (ha : DE X G W a ma) (hb : DK X G W b mb) (hm : behindInMarks .NotIn b = false := by rfl) (hk : X.K = G.K := by rfl) : DE X G W (.Compare a [.NotIn] [b] pos) (M.bin ninD ma mb) := de_cmp (op_ninR (units70 hr)) od_r ha hb hm hk
theorem de_is (ha : DE X G W a ma) (hb : DK X G W b mb) (hk : X.K = G.K := by rfl) : DE X G W (.Compare a [.Is] [b] pos) (M.bin isD ma mb) := de_cmp op_isR od_r ha hb (nomark _) hk
theorem de_nis (ha : DE X G W a ma) (hb : DK X G W b mb) (hk : X.K = G.K := by rfl) : DE X G W (.Compare a [.IsNot] [b] pos) (M.bin nisD ma mb) := de_cmp op_nisR od_r ha hb (nomark _) hk
theorem de_ix (ha : DE X G W a ma) (hb : DK X G W b mb) (hs : PlainIx b := by exact fun _ _ => rfl) (hk : X.K = G.K := by rfl) : DE X G W (.Subscript a b pos) (M.bin ixD ma mb) := de_ixR ix_seq od_ix ha hb hs hk
end
end DL
namespace DL
open PySem PySem.Spec PyProof.Rows L2

/-! ### slots -/
theorem get_set {α : Type} {l : List α} {i j : Nat} {x y : α} (h : (l.set i x)[j]? = some y) : (j = i ∧ y = x ∧ i < l.length) ∨ (j ≠ i ∧ l[j]? = some y) := by
  rw [List.getElem?_set] at h
  by_cases e : i = j
  · subst e
    rw [if_pos rfl] at h
    split at h
    · rename_i hl
      exact .inl ⟨rfl, (Option.some.inj h).symm, hl⟩
    · cases h
  · rw [if_neg e] at h
    exact .inr ⟨fun z => e z.symm, h⟩
section
variable {G : Gc} {σ : L2.St} {H : Hp} {ρ : Rho} {f : Nat → Addr} {i : Nat} {c : Cell}
/-- an object of the frame is data from now on -/
theorem Rel.freeze (R : Rel G σ H ρ f) (h : ρ[i]? = some (some (.mut true c))) :
    Rel G σ H (ρ.set i (some (.dat (cellD c)))) f ∧ Ext (Bad G ρ f) H (Bad G (ρ.set i (some (.dat (cellD c)))) f) H ∧ Has G.K (Bad G (ρ.set i (some (.dat (cellD c)))) f) H (.ref (f i)) (cellD c) := by
  obtain ⟨hσ, hc⟩ := R.mutAt h
  obtain ⟨hA, h0⟩ := R.own i c h
  have sub : ∀ a, Bad G (ρ.set i (some (.dat (cellD c)))) f a → Bad G ρ f a := fun a z => by
    rcases z with z | ⟨j, c', e, z⟩
    · exact .inl z
    · rcases get_set e with ⟨_, e2, _⟩ | ⟨_, e2⟩
      · cases e2
      · exact .inr ⟨j, c', e2, z⟩
  have x : Ext (Bad G ρ f) H (Bad G (ρ.set i (some (.dat (cellD c)))) f) H := fun a o hb e => ⟨fun z => hb (sub a z), e⟩
  have hb : ¬ Bad G (ρ.set i (some (.dat (cellD c)))) f (f i) := fun z => by
    rcases z with z | ⟨j, c', e, z⟩
    · exact hA z
    · rcases get_set e with ⟨_, e2, _⟩ | ⟨hj, e2⟩
      · cases e2
      · exact hj (R.inj j i _ _ _ _ e2 h z.symm)
  have hh : Has G.K (Bad G (ρ.set i (some (.dat (cellD c)))) f) H (.ref (f i)) (cellD c) := (hc.ext x rfl).has hb
  refine ⟨⟨?_, R.keep, R.dom, fun j c' e => ?_, fun j k b c' b' c'' e1 e2 z => ?_, fun j c' e => ?_, fun p hp => ?_, fun j s e => ?_⟩, x, hh⟩
  · rw [List.length_set]; exact R.len
  · rcases get_set e with ⟨_, e2, _⟩ | ⟨_, e2⟩
    · cases e2
    · exact R.own j c' e2
  · rcases get_set e1 with ⟨_, e3, _⟩ | ⟨_, e3⟩
    · cases e3
    · rcases get_set e2 with ⟨_, e4, _⟩ | ⟨_, e4⟩
      · cases e4
      · exact R.inj j k _ _ _ _ e3 e4 z
  · rcases get_set e with ⟨_, e2, _⟩ | ⟨_, e2⟩
    · cases e2
    · exact R.inn j c' e2
  · obtain ⟨c', e1, e2⟩ := R.innB p hp
    refine ⟨c', ?_, e2⟩
    have ne : i ≠ p.1 := fun z => by
      rw [← z, h] at e1
      cases e1
    rw [List.getElem?_set_ne ne]
    exact e1
  · rcases get_set e with ⟨e1, e2, _⟩ | ⟨hj, e2⟩
    · subst e1; cases e2
      exact ⟨_, hσ, hh⟩
    · obtain ⟨v, e3, h3⟩ := R.sl j s e2
      exact ⟨v, e3, h3.ext x fun _ => rfl⟩
end

/-! ### names, constants -/
def varM (i : Nat) : M D := fun ρ => match ρ[i]? with
  | some (some (.dat d)) => some (.val d ρ)
  | some (some (.mut true c)) => some (.val (cellD c) (ρ.set i (some (.dat (cellD c)))))
  | _ => none
/-- looked at -/
def pkM (i : Nat) : M D := fun ρ => match ρ[i]? with
  | some (some (.dat d)) => some (.val d ρ)
  | some (some (.mut _ c)) => some (.val (cellD c) ρ)
  | _ => none
section
variable {X : Cx} {G : Gc} {W : WX} {a b c e : Expr} {es : List Expr} {m ma mb mc : M D} {mt mu : M Bool} {pos : Pos} {k : Nat}
theorem tv_imp (i : Nat) : ∀ σ H Q, tD G W (varM i) σ H Q → tVar i σ H Q := by
  rintro σ H Q ⟨ρ, f, r, R, hm, hp⟩
  unfold varM at hm
  split at hm
  · rename_i d e
    cases hm
    obtain ⟨v, e1, h1⟩ := R.sl i _ e
    exact ⟨v, e1, hp v H R (Ext.refl _ _) h1⟩
  · rename_i c e
    cases hm
    obtain ⟨R', x, hh⟩ := R.freeze e
    exact ⟨_, (R.mutAt e).1, hp _ H R' x hh⟩
  · cases hm
theorem tk_imp (i : Nat) : ∀ σ H Q, tK G W (pkM i) σ H Q → tVar i σ H Q := by
  rintro σ H Q ⟨ρ, f, r, R, hm, hp⟩
  unfold pkM at hm
  split at hm
  · rename_i d e
    cases hm
    obtain ⟨v, e1, h1⟩ := R.sl i _ e
    exact ⟨v, e1, hp v H R (Ext.refl _ _) (.inl h1)⟩
  · rename_i b c e
    cases hm
    obtain ⟨e1, h1⟩ := R.mutAt e
    exact ⟨_, e1, hp _ H R (Ext.refl _ _) (.inr ⟨_, c, rfl, h1, rfl⟩)⟩
  · cases hm
theorem dv (i : Nat) {x : Str} {pos : Pos} (hN : X.N[i]? = some x := by rfl) (hv : Vis X.env.scope x := by first | exact Or.inl rfl | exact Or.inr (Or.inl rfl) | exact Or.inr (Or.inr rfl)) (hd : (x == ("__debug__" : Str)) = false := by decide)
    (hcd : (x == ("__classdict__" : Str)) = false := by decide) : DE X G W (.Name x pos) (varM i) := imp (pv i hN hv hd hcd) (tv_imp i)
theorem dpk (i : Nat) {x : Str} {pos : Pos} (hN : X.N[i]? = some x := by rfl) (hv : Vis X.env.scope x := by first | exact Or.inl rfl | exact Or.inr (Or.inl rfl) | exact Or.inr (Or.inr rfl)) (hd : (x == ("__debug__" : Str)) = false := by decide)
    (hcd : (x == ("__classdict__" : Str)) = false := by decide) : DK X G W (.Name x pos) (pkM i) := imp (pv i hN hv hd hcd) (tk_imp i)
theorem tc_imp {v : V} {d : D} (h : ∀ B H, Has G.K B H v d) : ∀ σ H Q, tD G W (M.ret d) σ H Q → tC v σ H Q := by
  rintro σ H Q ⟨ρ, f, r, R, hm, hp⟩
  cases hm
  exact hp v H R (Ext.refl _ _) (h _ _)
theorem de_int {i : Int} {j : Nat} : DE X G W (.Constant (.int i) j pos) (M.ret (.int i)) := imp pe_int (tc_imp fun _ _ => .int i)
theorem de_bl {b : Bool} {j : Nat} : DE X G W (.Constant (.bool b) j pos) (M.ret (.bool b)) := imp pe_bl (tc_imp fun _ _ => .bl b)
theorem de_non {j : Nat} : DE X G W (.Constant .none j pos) (M.ret .none) := imp pe_non (tc_imp fun _ _ => .non)
theorem de_str {x : Str} {j : Nat} : DE X G W (.Constant (.str x) j pos) (M.ret (.str x)) := imp pe_str (tc_imp fun _ _ => .str x)
/-- a constant of the module -/
def Con (K : PySem.W.Frag) (mg : Str → Option Value) (x : Str) (d : D) : Prop := ∃ v u, mg x = some u ∧ RelV v u ∧ ∀ B H, Has K B H v d
theorem de_con {x : Str} {d : D} (c : Con X.K X.mg x d) (hg : Gl X x := by rfl) (hd : (x == ("__debug__" : Str)) = false := by decide) (hk : X.K = G.K := by rfl) : DE X G W (.Name x pos) (M.ret d) := by
  obtain ⟨v, u, h1, h2, h3⟩ := c
  exact imp (pe_glob hg h1 h2 hd) (tc_imp fun B H => hk ▸ h3 B H)

/-! ### displays -/
def M.cons (ma : M D) (mr : M (List D)) : M (List D) := ma.bind fun x => mr.bind fun xs => .ret (x :: xs)
theorem da_nil : DA X G W [] (M.ret []) := impA pa_nil fun σ H Q ⟨ρ, f, r, R, hm, hp⟩ => by
  cases hm
  exact hp [] H R (Ext.refl _ _) .nil
theorem da_cons {mr : M (List D)} (ha : DE X G W e m) (hr : DA X G W es mr) (hs : starEach (e :: es) X.env = (false, eval e X.env) :: starEach es X.env := by rfl) : DA X G W (e :: es) (M.cons m mr) := by
  refine impA (pa_cons ha hr hs) ?_
  rintro σ H Q ⟨ρ, f, r, R, hm, hp⟩
  have hx := xok hp
  refine tD_bind R hm hx fun x ρ1 v H1 hk1 R1 x1 hv => ?_
  refine tA_bind R1 hk1 hx fun xs ρ2 vs H2 hk2 R2 x2 hvs => ?_
  cases hk2
  exact hp _ _ R2 (x1.trans x2) (.cons (hv.ext x2) hvs)
def tupD (ds : List D) : Option D := if ds.length ≤ 16777216 then some (.tuple ds) else none
def lstF (ds : List D) : Option Cell := if ds.length ≤ 16777216 then some (.lst ds) else none
def M.tup (m : M (List D)) : M D := m.bind fun ds => .lift (tupD ds)
def M.lst (m : M (List D)) : M Cell := m.bind fun ds => .lift (lstF ds)
theorem de_tup {x1 : Nat} {ms : M (List D)} (h : DA X G W es ms) : DE X G W (.Tuple es x1 pos) (M.tup ms) := by
  refine imp (pe_tup h) ?_
  rintro σ H Q ⟨ρ, f, r, R, hm, hp⟩
  refine tA_bind R hm (xok hp) fun ds ρ1 vs H1 hk R1 x1 hv => ?_
  obtain ⟨z, e, er⟩ := lift_inv hk
  subst er
  unfold tupD at e
  split at e
  · rename_i hl
    cases e
    refine ⟨by rw [hv.length]; exact hl, fun p h0 => hp _ _ (R1.same (same_upd h0)) (x1.trans (Ext.same (same_upd h0))) (.tup (.inl ⟨R1.free h0, .inl upd_same⟩) (hv.same (same_upd h0)))⟩
  · cases e
theorem df_lst {ms : M (List D)} (h : DA X G W es ms) : DF X G W (.List es pos) (M.lst ms) := by
  refine imp (pe_lst h) ?_
  rintro σ H Q ⟨ρ, f, r, R, hm, hp⟩
  refine tA_bind R hm (xok hp) fun ds ρ1 vs H1 hk R1 x1 hv => ?_
  obtain ⟨z, e, er⟩ := lift_inv hk
  subst er
  unfold lstF at e
  split at e
  · rename_i hl
    cases e
    refine ⟨by rw [hv.length]; exact hl, fun p h0 => hp _ _ (.mk' R1 h0 (same_upd h0) ⟨vs, upd_same, hv.ext fun a o hb e => ⟨fun z => z.elim hb (ne_of_none e h0), (same_upd h0) _ _ e⟩⟩) (x1.trans (Ext.fresh h0 (same_upd h0)))⟩
  · cases e

/-! ### tests -/
def boolD : D → Option Bool
  | .bool b => some b
  | _ => none
/-- truth -/
def truD : D → Option Bool
  | .none => some false
  | .bool b => some b
  | .int i => some (i != 0)
  | .str y => if y.length ≤ 16777216 then some ((y.length : Int) != 0) else none
  | .list xs => some (!xs.isEmpty)
  | .tuple xs => some (!xs.isEmpty)
  | .dict _ => none
def M.tru (m : M D) : M Bool := m.bind fun d => .lift (truD d)
def M.asB (m : M D) : M Bool := m.bind fun d => .lift (boolD d)
theorem HasL.empty {K : PySem.W.Frag} {B : Addr → Prop} {H : Hp} {vs : List V} {ds : List D} (h : HasL K B H vs ds) : (!vs.isEmpty) = !ds.isEmpty := by
  cases h <;> rfl
theorem HasK.tru {K : PySem.W.Frag} {B : Addr → Prop} {H : Hp} {x : V} {d : D} (h : HasK K B H x d) {t : Bool} (e : truD d = some t) : TruV K x H t := by
  cases d with
  | none => cases e; rw [h.non]; exact rfl
  | bool b => cases e; rw [h.bl]; exact rfl
  | int i => cases e; rw [h.int]; exact rfl
  | str y =>
    simp only [truD] at e
    split at e
    · rename_i hl
      cases e
      rw [h.str]
      exact ⟨hl, rfl⟩
    · cases e
  | list xs =>
    cases e
    obtain ⟨a, vs, rfl, _, s, hh⟩ := h.lst
    exact .inl ⟨vs, s, hh.empty.symm⟩
  | tuple xs =>
    cases e
    obtain ⟨a, vs, rfl, _, s, hh⟩ := h.tup.tup_inv
    exact .inr (.inl ⟨vs, s, hh.empty.symm⟩)
  | dict kvs => cases e
/-- any expression whose test is its value's truth -/
theorem dt_tru (h : DK X G W e m) (he : ∀ whole, isTrue e X.env whole = (do let v ← whole; standAt e.pos; holding [v] (truthy v)) := by exact fun _ => rfl) (hk : X.K = G.K := by rfl) : DT X G W e (M.tru m) := by
  refine impT (pt_truth h he) ?_
  rintro σ H Q ⟨ρ, f, r, R, hm, hp⟩
  refine tK_bind R hm (xok hp) fun d ρ1 v H1 hk1 R1 x1 hv => ?_
  obtain ⟨t, e, er⟩ := lift_inv hk1
  subst er
  exact ⟨t, hk ▸ hv.tru e, hp H1 R1 x1⟩
theorem cmpT_imp {r : R2} {g : D → D → Option D} (hk : X.K = G.K) (hg : OpD X.K r g) : ∀ σ H Q, tT G W (M.asB (M.bin g ma mb)) σ H Q → tTest (tOp r (tD G W ma) (tK G W mb)) σ H Q := by
  rintro σ H Q ⟨ρ, f, s, R, hm, hp⟩
  refine bin_imp hk hg σ H _ ?_
  refine tD_bind R hm (xok hp) fun d ρ1 v H1 hk1 R1 x1 hv => ?_
  obtain ⟨t, e, er⟩ := lift_inv hk1
  subst er
  cases d <;> try (cases e)
  exact ⟨_, hv.bl_inv, hp H1 R1 x1⟩
theorem dt_cmp {op : CmpOp} {r : R2} {g : D → D → Option D} (ho : OpR X (compareOp op) r) (hg : OpD X.K r g) (ha : DE X G W a ma) (hb : DK X G W b mb) (hm : behindInMarks op b = false) (hk : X.K = G.K := by rfl) : DT X G W (.Compare a [op] [b] pos) (M.asB (M.bin g ma mb)) :=
  impT (pt_cmpR ho ha hb hm) (cmpT_imp hk hg)
def M.notB (m : M Bool) : M Bool := m.bind fun b => .ret (!b)
theorem dt_not (h : DT X G W a mt) : DT X G W (.UnaryOp .Not a pos) (M.notB mt) := by
  refine impT (pt_not h) ?_
  rintro σ H Q ⟨ρ, f, s, R, hm, hp⟩
  refine tT_bind R hm (xok hp) fun t ρ1 H1 hk1 R1 x1 => ?_
  cases hk1
  exact hp H1 R1 x1
/-- tests whatever their whole is (and, or) -/
abbrev DW (X : Cx) (G : Gc) (W : WX) (e : Expr) (m : M Bool) : Prop := PW X e (tT G W m)
theorem impW {t t' : TT} (h : PW X e t) (w : ∀ σ H Q, t' σ H Q → t σ H Q) : PW X e t' := ⟨fun wh pins s σ H Q I hq => h.run wh pins s σ H Q I (w σ H Q hq)⟩
def M.and (mt mu : M Bool) : M Bool := mt.bind fun t => if t = true then mu else .ret false
def M.or (mt mu : M Bool) : M Bool := mt.bind fun t => if t = true then .ret true else mu
variable {rest : List Expr}
theorem dw_and1 (h : DT X G W a mt) : DW X G W (.BoolOp .And [a] pos) mt := pw_and1 h
theorem dw_or1 (h : DT X G W a mt) : DW X G W (.BoolOp .Or [a] pos) mt := pw_or1 h
theorem dw_and (h : DT X G W a mt) (hu : DW X G W (.BoolOp .And (b :: rest) pos) mu) : DW X G W (.BoolOp .And (a :: b :: rest) pos) (M.and mt mu) := by
  refine impW (pw_and h hu) ?_
  rintro σ H Q ⟨ρ, f, s, R, hm, hp⟩
  refine tT_bind R hm (xok hp) fun t ρ1 H1 hk1 R1 x1 => ?_
  cases t with
  | true =>
    rw [if_pos rfl] at hk1 ⊢
    refine ⟨ρ1, f, s, R1, hk1, ?_⟩
    cases s with
    | val t ρ' => exact fun H' R' x => hp H' R' (x1.trans x)
    | exc c ρ' => exact hp
  | false =>
    rw [if_neg Bool.false_ne_true] at hk1 ⊢
    cases hk1
    exact hp H1 R1 x1
theorem dw_or (h : DT X G W a mt) (hu : DW X G W (.BoolOp .Or (b :: rest) pos) mu) : DW X G W (.BoolOp .Or (a :: b :: rest) pos) (M.or mt mu) := by
  refine impW (pw_or h hu) ?_
  rintro σ H Q ⟨ρ, f, s, R, hm, hp⟩
  refine tT_bind R hm (xok hp) fun t ρ1 H1 hk1 R1 x1 => ?_
  cases t with
  | true =>
    rw [if_pos rfl] at hk1 ⊢
    cases hk1
    exact hp H1 R1 x1
  | false =>
    rw [if_neg Bool.false_ne_true] at hk1 ⊢
    refine ⟨ρ1, f, s, R1, hk1, ?_⟩
    cases s with
    | val t ρ' => exact fun H' R' x => hp H' R' (x1.trans x)
    | exc c ρ' => exact hp
theorem dt_w (h : DW X G W e mt) : DT X G W e mt := h.pt

/-! ### and, or, not of truth values as values -/
def M.andV (ma mb : M D) : M D := ma.bind fun x => match x with
  | .bool true => mb
  | .bool false => .ret (.bool false)
  | _ => fun _ => none
def M.orV (ma mb : M D) : M D := ma.bind fun x => match x with
  | .bool true => .ret (.bool true)
  | .bool false => mb
  | _ => fun _ => none
def M.notV (ma : M D) : M D := ma.bind fun x => match x with
  | .bool b => .ret (.bool (!b))
  | _ => fun _ => none
theorem de_one {op : BoolOp} (h : DE X G W a ma) : DE X G W (.BoolOp op [a] pos) ma := pe_one h
theorem tD_then {σ : L2.St} {H H1 : Hp} {ρ ρ1 : Rho} {f : Nat → Addr} {r : R D} {Q : VK} (R1 : Rel G σ H1 ρ1 f) (x1 : Ext (Bad G ρ f) H (Bad G ρ1 f) H1) (hk : m ρ1 = some r)
    (hp : Out r (fun d ρ' => ∀ v H', Rel G σ H' ρ' f → Ext (Bad G ρ f) H (Bad G ρ' f) H' → Has G.K (Bad G ρ' f) H' v d → Q v H') (fun c ρ' => XP G W σ c ρ' f)) : tD G W m σ H1 Q := by
  refine ⟨ρ1, f, r, R1, hk, ?_⟩
  cases r with
  | val d ρ' => exact fun v H' R' x hh => hp v H' R' (x1.trans x) hh
  | exc c ρ' => exact hp
theorem de_and (h : DE X G W a ma) (hu : DE X G W (.BoolOp .And (b :: rest) pos) mb) : DE X G W (.BoolOp .And (a :: b :: rest) pos) (M.andV ma mb) := by
  refine imp (pe_and h hu) ?_
  rintro σ H Q ⟨ρ, f, s, R, hm, hp⟩
  refine tD_bind R hm (xok hp) fun d ρ1 v H1 hk1 R1 x1 hv => ?_
  cases d <;> try (cases hk1)
  rename_i t
  refine ⟨t, hv.bl_inv, ?_⟩
  cases t with
  | true => rw [if_pos rfl]; exact tD_then R1 x1 hk1 hp
  | false =>
    rw [if_neg Bool.false_ne_true]
    cases hk1
    exact hp _ H1 R1 x1 (.bl false)
theorem de_or (h : DE X G W a ma) (hu : DE X G W (.BoolOp .Or (b :: rest) pos) mb) : DE X G W (.BoolOp .Or (a :: b :: rest) pos) (M.orV ma mb) := by
  refine imp (pe_or h hu) ?_
  rintro σ H Q ⟨ρ, f, s, R, hm, hp⟩
  refine tD_bind R hm (xok hp) fun d ρ1 v H1 hk1 R1 x1 hv => ?_
  cases d <;> try (cases hk1)
  rename_i t
  refine ⟨t, hv.bl_inv, ?_⟩
  cases t with
  | false => rw [if_neg Bool.false_ne_true]; exact tD_then R1 x1 hk1 hp
  | true =>
    rw [if_pos rfl]
    cases hk1
    exact hp _ H1 R1 x1 (.bl true)
theorem de_not (h : DE X G W a ma) : DE X G W (.UnaryOp .Not a pos) (M.notV ma) := by
  refine imp (pe_not h) ?_
  rintro σ H Q ⟨ρ, f, s, R, hm, hp⟩
  refine tD_bind R hm (xok hp) fun d ρ1 v H1 hk1 R1 x1 hv => ?_
  cases d <;> try (cases hk1)
  rename_i t
  exact ⟨t, hv.bl_inv, hp _ H1 R1 x1 (.bl _)⟩
/-! ### a if t else b -/
def M.ife {α : Type} (mt : M Bool) (ma mb : M α) : M α := mt.bind fun t => if t = true then ma else mb
theorem de_if (ht : DT X G W c mt) (ha : DE X G W a ma) (hb : DE X G W b mb) : DE X G W (.IfExp c a b pos) (M.ife mt ma mb) := by
  refine imp (pe_ifExp ht ha hb) ?_
  rintro σ H Q ⟨ρ, f, s, R, hm, hp⟩
  refine tT_bind R hm (xok hp) fun t ρ1 H1 hk1 R1 x1 => ?_
  cases t with
  | true =>
    rw [if_pos rfl] at hk1 ⊢
    exact tD_then R1 x1 hk1 hp
  | false =>
    rw [if_neg Bool.false_ne_true] at hk1 ⊢
    exact tD_then R1 x1 hk1 hp

/-! ### a op b op c -/
def M.chain (g g' : D → D → Option D) (ma mb mc : M D) : M D := ma.bind fun x => mb.bind fun y => (M.lift (g x y)).bind fun z => match z with
  | .bool true => mc.bind fun w => .lift (g' y w)
  | .bool false => .ret (.bool false)
  | _ => fun _ => none
theorem chain_imp {r r' : R2} {g g' : D → D → Option D} (hk : X.K = G.K) (hg : OpD X.K r g) (hg' : OpD X.K r' g') : ∀ σ H Q, tD G W (M.chain g g' ma mb mc) σ H Q → tChain r r' (tD G W ma) (tD G W mb) (tD G W mc) σ H Q := by
  rintro σ H Q ⟨ρ, f, s, R, hm, hp⟩
  rw [hk] at hg hg'
  have hx := xok hp
  refine tD_bind R hm hx fun x ρ1 v H1 hk1 R1 x1 hv => ?_
  refine tD_bind R1 hk1 hx fun y ρ2 u H2 hk2 R2 x2 hu => ?_
  rcases bind_inv hk2 with ⟨_, _, e1, _⟩ | ⟨z, ρ3, e1, hk3⟩
  · obtain ⟨_, _, e2⟩ := lift_inv e1
    cases e2
  obtain ⟨z', e2, e3⟩ := lift_inv e1
  cases e3
  refine hg (Bad G ρ2 f) H2 v u x y z _ (fun p hp => R2.free hp) (.inl (hv.ext x2)) (.inl hu) e2 fun w H3 s3 hw => ?_
  cases z <;> try (cases hk3)
  rename_i t
  refine ⟨t, hw.bl_inv, ?_⟩
  have R3 := R2.same s3
  have x3 := (x1.trans x2).trans (Ext.same s3)
  cases t with
  | true =>
    rw [if_pos rfl]
    refine tD_bind R3 hk3 hx fun w' ρ4 u' H4 hk4 R4 x4 hu' => ?_
    obtain ⟨z4, e4, er⟩ := lift_inv hk4
    subst er
    exact hg' (Bad G ρ4 f) H4 u u' y w' z4 Q (fun p hp => R4.free hp) (.inl ((hu.same s3).ext x4)) (.inl hu') e4 fun w5 H5 s5 h5 => hp _ _ (R4.same s5) ((x3.trans x4).trans (Ext.same s5)) h5
  | false =>
    rw [if_neg Bool.false_ne_true]
    cases hk3
    exact hp _ H3 R3 x3 (.bl false)
theorem de_chain {op op' : CmpOp} {r r' : R2} {g g' : D → D → Option D} (ho : OpR X (compareOp op) r) (ho' : OpR X (compareOp op') r') (hg : OpD X.K r g) (hg' : OpD X.K r' g') (ha : DE X G W a ma) (hb : DE X G W b mb) (hc : DE X G W c mc)
    (hm : lastMarks [op, op'] [b, c] = false := by with_unfolding_all rfl) (hk : X.K = G.K := by rfl) : DE X G W (.Compare a [op, op'] [b, c] pos) (M.chain g g' ma mb mc) := imp (pe_chain ho ho' ha hb hc hm) (chain_imp hk hg hg')
theorem dt_chain {op op' : CmpOp} {r r' : R2} {g g' : D → D → Option D} (ho : OpR X (compareOp op) r) (ho' : OpR X (compareOp op') r') (hg : OpD X.K r g) (hg' : OpD X.K r' g') (ha : DE X G W a ma) (hb : DE X G W b mb) (hc : DE X G W c mc)
    (hm : lastMarks [op, op'] [b, c] = false := by with_unfolding_all rfl) (hk : X.K = G.K := by rfl) : DT X G W (.Compare a [op, op'] [b, c] pos) (M.asB (M.chain g g' ma mb mc)) := by
  refine impT (pt_chain ho ho' ha hb hc hm) ?_
  rintro σ H Q ⟨ρ, f, s, R, hm, hp⟩
  refine chain_imp hk hg hg' σ H _ ?_
  refine tD_bind R hm (xok hp) fun d ρ1 v H1 hk1 R1 x1 hv => ?_
  obtain ⟨t, e, er⟩ := lift_inv hk1
  subst er
  cases d <;> try (cases e)
  exact ⟨_, hv.bl_inv, hp H1 R1 x1⟩
end
end DL
namespace DL
open PySem PySem.Spec PyProof.Rows L2

/-! ### objects that are changed -/
theorem Rel.upd {G : Gc} {σ : L2.St} {H H' : Hp} {ρ ρ' : Rho} {f : Nat → Addr} (R : Rel G σ H ρ f) (S : List Nat) (hl : ρ'.length = ρ.length) (h1 : ∀ i, i ∉ S → ρ'[i]? = ρ[i]?)
    (h2 : ∀ i ∈ S, ∃ b c c', ρ[i]? = some (some (.mut b c)) ∧ ρ'[i]? = some (some (.mut b c')) ∧ CellOk G.K (Bad G ρ f) H' (f i) c') (h3 : ∀ a o, H a = some o → (∀ i ∈ S, f i ≠ a) → ¬ G.T a → H' a = some o) (h4 : ∀ a, G.T a → TabAt H' a) :
    Rel G σ H' ρ' f ∧ Ext (Bad G ρ f) H (Bad G ρ' f) H' := by
  have back : ∀ (i : Nat) (b : Bool) (c : Cell), ρ'[i]? = some (some (.mut b c)) → ∃ c0, ρ[i]? = some (some (.mut b c0)) := fun i b c e => by
    by_cases hi : i ∈ S
    · obtain ⟨b', c1, c2, e1, e2, _⟩ := h2 i hi
      rw [e] at e2
      cases e2
      exact ⟨c1, e1⟩
    · exact ⟨c, (h1 i hi) ▸ e⟩
  have fwd : ∀ (i : Nat) (b : Bool) (c : Cell), ρ[i]? = some (some (.mut b c)) → ∃ c0, ρ'[i]? = some (some (.mut b c0)) := fun i b c e => by
    by_cases hi : i ∈ S
    · obtain ⟨b', c1, c2, e1, e2, _⟩ := h2 i hi
      rw [e] at e1
      cases e1
      exact ⟨c2, e2⟩
    · exact ⟨c, (h1 i hi).trans e⟩
  have bd : ∀ a, Bad G ρ' f a → Bad G ρ f a := fun a z => by
    rcases z with z | ⟨i, c, e, z⟩
    · exact .inl z
    · obtain ⟨c0, e0⟩ := back i true c e
      exact .inr ⟨i, c0, e0, z⟩
  have bd' : ∀ a, Bad G ρ f a → Bad G ρ' f a := fun a z => by
    rcases z with z | ⟨i, c, e, z⟩
    · exact .inl z
    · obtain ⟨c0, e0⟩ := fwd i true c e
      exact .inr ⟨i, c0, e0, z⟩
  have x : Ext (Bad G ρ f) H (Bad G ρ' f) H' := fun a o hb e => ⟨fun z => hb (bd a z), h3 a o e (fun i hi z => by
    obtain ⟨b, c, c', e1, _, _⟩ := h2 i hi
    rw [← z] at hb
    exact hb (R.mutBad e1)) fun z => hb (.inl (R.dom.2 a z).1)⟩
  refine ⟨⟨by rw [hl]; exact R.len, fun a o e hn ht => ?_, ⟨fun a ha => ?_, fun a ha => ⟨(R.dom.2 a ha).1, h4 a ha⟩⟩, fun i c e => ?_, fun i j b c b' c' e1 e2 z => ?_, fun i c e => ?_, fun p hp => ?_, fun i s e => ?_⟩, x⟩
  · refine h3 a o (R.keep a o e hn ht) (fun i hi z => ?_) ht
    obtain ⟨b, c, c', e1, _, _⟩ := h2 i hi
    cases b with
    | true =>
      have := (R.own i c e1).2
      rw [z, e] at this
      cases this
    | false => exact hn _ (R.inn i c e1).1 z
  · by_cases hs : ∃ i ∈ S, f i = a
    · obtain ⟨i, hi, z⟩ := hs
      obtain ⟨b, c, c', _, _, ok⟩ := h2 i hi
      rw [← z]
      exact ok.at
    · by_cases ht : G.T a
      · obtain ⟨ps, e, _⟩ := h4 a ht
        exact ⟨_, e⟩
      · obtain ⟨o, e⟩ := R.dom.1 a ha
        exact ⟨o, h3 a o e (fun i hi z => hs ⟨i, hi, z⟩) ht⟩
  · obtain ⟨c0, e0⟩ := back i true c e
    exact R.own i c0 e0
  · obtain ⟨c0, e0⟩ := back i b c e1
    obtain ⟨c1, e3⟩ := back j b' c' e2
    exact R.inj i j _ _ _ _ e0 e3 z
  · obtain ⟨c0, e0⟩ := back i false c e
    exact R.inn i c0 e0
  · obtain ⟨c, e1, e2⟩ := R.innB p hp
    obtain ⟨c0, e0⟩ := fwd p.1 false c e1
    exact ⟨c0, e0, e2⟩
  · by_cases hi : i ∈ S
    · obtain ⟨b, c, c', e1, e2, ok⟩ := h2 i hi
      rw [e] at e2
      cases e2
      obtain ⟨v, e3, h⟩ := R.sl i _ e1
      exact ⟨v, e3, h.1, ok.ext (fun a o hb e => ⟨fun z => hb (bd a z), e⟩) rfl⟩
    · rw [h1 i hi] at e
      obtain ⟨v, e3, h⟩ := R.sl i s e
      refine ⟨v, e3, h.ext x ?_⟩
      rintro ⟨b, c, rfl⟩
      obtain ⟨o, eo⟩ := h.2.at
      rw [eo]
      refine h3 _ o eo (fun j hj z => ?_) fun ht => (R.dom.2 _ ht).2.not h.2
      obtain ⟨b', c1, c2, e1, _, _⟩ := h2 j hj
      have := R.inj j i _ _ _ _ e1 e z
      subst this
      exact hi hj
/-- one object -/
theorem Rel.upd1 {G : Gc} {σ : L2.St} {H H' : Hp} {ρ : Rho} {f : Nat → Addr} {i : Nat} {b : Bool} {c c' : Cell} (R : Rel G σ H ρ f) (e : ρ[i]? = some (some (.mut b c))) (ok : CellOk G.K (Bad G ρ f) H' (f i) c')
    (h3 : ∀ a o, H a = some o → f i ≠ a → H' a = some o) : Rel G σ H' (ρ.set i (some (.mut b c'))) f ∧ Ext (Bad G ρ f) H (Bad G (ρ.set i (some (.mut b c'))) f) H' := by
  have hl : i < ρ.length := (List.getElem?_eq_some_iff.mp e).1
  refine R.upd [i] (by rw [List.length_set]) (fun j hj => ?_) (fun j hj => ?_) (fun a o eo hn _ => h3 a o eo (hn i (List.mem_singleton.mpr rfl))) fun a ht => ?_
  · exact List.getElem?_set_ne (fun z => hj (List.mem_singleton.mpr z.symm))
  · have := List.mem_singleton.mp hj
    subst this
    exact ⟨b, c, c', e, by rw [List.getElem?_set_self hl], ok⟩
  · obtain ⟨ps, ep, tr⟩ := (R.dom.2 a ht).2
    exact ⟨ps, h3 a _ ep (fun z => (R.dom.2 a ht).2.not (z ▸ (R.mutAt e).2)), tr⟩

/-! ### what a def is -/
/-- an argument: data, or an object that the def may change -/
inductive Av where
  | dat (d : D)
  | ref (c : Cell)
/-- what comes back, and the objects handed in as they are then -/
inductive FR where
  | ret (d : D) (outs : List Cell)
  | retF (c : Cell) (outs : List Cell)
  | exc (c : Str) (outs : List Cell)
inductive AvL (K : PySem.W.Frag) (A : Addr → Prop) (H : Hp) : List V → List Av → List Addr → Prop
  | nil : AvL K A H [] [] []
  | dat {v : V} {d : D} {vs : List V} {as : List Av} {ps : List Addr} : Has K A H v d → AvL K A H vs as ps → AvL K A H (v :: vs) (.dat d :: as) ps
  | ref {p : Addr} {c : Cell} {vs : List V} {as : List Av} {ps : List Addr} : A p → CellOk K A H p c → p ∉ ps → AvL K A H vs as ps → AvL K A H (.ref p :: vs) (.ref c :: as) (p :: ps)
def Outs (K : PySem.W.Frag) (A : Addr → Prop) (H : Hp) (ps : List Addr) (outs : List Cell) : Prop := Paired (fun p c => CellOk K A H p c) ps outs
def Keep (T : Addr → Prop) (ps : List Addr) (H H' : Hp) : Prop := (∀ a o, H a = some o → a ∉ ps → ¬ T a → H' a = some o) ∧ ∀ a, T a → TabAt H' a
abbrev Fn := List Av → Option FR
/-- the promise that a def's run is F -/
def spF (K : PySem.W.Frag) (mg : Str → Option Value) (T : Addr → Prop) (F : Fn) : Sp := fun vs H Q E => ∃ A as ps r, AvL K A H vs as ps ∧ ((∀ a, A a → ∃ o, H a = some o) ∧ ∀ a, T a → A a ∧ TabAt H a) ∧ F as = some r ∧ match r with
  | .ret d outs => ∀ v H', Keep T ps H H' → Outs K A H' ps outs → Has K A H' v d → Q v H'
  | .retF c outs => ∀ p H', Keep T ps H H' → Outs K (fun a => A a ∨ a = p) H' ps outs → H p = none → CellOk K (fun a => A a ∨ a = p) H' p c → Q (.ref p) H'
  | .exc c outs => ∀ cls dd H', mg c = some cls → Keep T ps H H' → Outs K A H' ps outs → E cls dd H'

/-! ### arguments of a call -/
inductive CArg where
  | dat (d : D)
  | slot (i : Nat)
def CArgOk (G : Gc) (ρ : Rho) (f : Nat → Addr) (H : Hp) : V → CArg → Prop
  | v, .dat d => Has G.K (Bad G ρ f) H v d
  | v, .slot i => v = .ref (f i)
def tC' (G : Gc) (W : WX) (m : M (List CArg)) : TA := fun σ H Q => ∃ ρ f r, Rel G σ H ρ f ∧ m ρ = some r ∧
  Out r (fun cs ρ' => ∀ vs H', Rel G σ H' ρ' f → Ext (Bad G ρ f) H (Bad G ρ' f) H' → Paired (CArgOk G ρ' f H') vs cs → Q vs H') (fun c ρ' => XP G W σ c ρ' f)
abbrev DC (X : Cx) (G : Gc) (W : WX) (es : List Expr) (m : M (List CArg)) : Prop := PA X es (tC' G W m)
def M.cdat (ma : M D) (mr : M (List CArg)) : M (List CArg) := ma.bind fun x => mr.bind fun xs => .ret (.dat x :: xs)
def M.cslot (i : Nat) (mr : M (List CArg)) : M (List CArg) := fun ρ => match ρ[i]? with
  | some (some (.mut _ _)) => (mr.bind fun xs => .ret (.slot i :: xs)) ρ
  | _ => none
theorem CArgOk.ext {G : Gc} {ρ ρ' : Rho} {f : Nat → Addr} {H H' : Hp} (x : Ext (Bad G ρ f) H (Bad G ρ' f) H') {v : V} {c : CArg} (h : CArgOk G ρ f H v c) : CArgOk G ρ' f H' v c := by
  cases c with
  | dat d => exact Has.ext x h
  | slot i => exact h
section
variable {X : Cx} {G : Gc} {W : WX} {a b c e : Expr} {es : List Expr} {m ma mb mc : M D} {mt mu : M Bool} {pos : Pos} {k : Nat}
theorem tC_bind {α : Type} {m : M (List CArg)} {k : List CArg → M α} {σ : L2.St} {H : Hp} {ρ : Rho} {f : Nat → Addr} {r : R α} {Q : List V → Hp → Prop} (Rl : Rel G σ H ρ f) (h : M.bind m k ρ = some r) (hx : ∀ c ρ', r = .exc c ρ' → XP G W σ c ρ' f)
    (hk : ∀ d ρ' vs H', k d ρ' = some r → Rel G σ H' ρ' f → Ext (Bad G ρ f) H (Bad G ρ' f) H' → Paired (CArgOk G ρ' f H') vs d → Q vs H') : tC' G W m σ H Q := by
  rcases bind_inv h with ⟨c, ρ', e1, e2⟩ | ⟨d, ρ', e1, e2⟩
  · exact ⟨ρ, f, _, Rl, e1, hx c ρ' e2⟩
  · exact ⟨ρ, f, _, Rl, e1, fun v H' R' x hh => hk d ρ' v H' e2 R' x hh⟩
theorem dc_nil : DC X G W [] (M.ret []) := impA pa_nil fun σ H Q ⟨ρ, f, r, R, hm, hp⟩ => by
  cases hm
  exact hp [] H R (Ext.refl _ _) .nil
theorem dc_dat {mr : M (List CArg)} (ha : DE X G W e m) (hr : DC X G W es mr) (hs : starEach (e :: es) X.env = (false, eval e X.env) :: starEach es X.env := by rfl) : DC X G W (e :: es) (M.cdat m mr) := by
  refine impA (pa_cons ha hr hs) ?_
  rintro σ H Q ⟨ρ, f, r, R, hm, hp⟩
  have hx := xok hp
  refine tD_bind R hm hx fun x ρ1 v H1 hk1 R1 x1 hv => ?_
  refine tC_bind R1 hk1 hx fun xs ρ2 vs H2 hk2 R2 x2 hvs => ?_
  cases hk2
  exact hp _ _ R2 (x1.trans x2) (.cons (Has.ext x2 hv) hvs)
theorem dc_slot {mr : M (List CArg)} (i : Nat) {x : Str} {p : Pos} (hr : DC X G W es mr) (hN : X.N[i]? = some x := by rfl) (hv : Vis X.env.scope x := by first | exact Or.inl rfl | exact Or.inr (Or.inl rfl) | exact Or.inr (Or.inr rfl))
    (hs : starEach (.Name x p :: es) X.env = (false, eval (.Name x p) X.env) :: starEach es X.env := by rfl) (hd : (x == ("__debug__" : Str)) = false := by decide) (hcd : (x == ("__classdict__" : Str)) = false := by decide) : DC X G W (.Name x p :: es) (M.cslot i mr) := by
  refine impA (pa_cons (pv i hN hv hd hcd) hr hs) ?_
  rintro σ H Q ⟨ρ, f, r, R, hm, hp⟩
  unfold M.cslot at hm
  split at hm
  · rename_i b c e
    refine ⟨_, (R.mutAt e).1, ?_⟩
    refine tC_bind R hm (xok hp) fun xs ρ2 vs H2 hk2 R2 x2 hvs => ?_
    cases hk2
    exact hp _ _ R2 x2 (.cons rfl hvs)
  · cases hm

/-- the arguments as the def gets them -/
def avs (ρ : Rho) : List CArg → Option (List Av)
  | [] => some []
  | .dat d :: r => match avs ρ r with
    | some as => some (.dat d :: as)
    | none => none
  | .slot i :: r => match ρ[i]? with
    | some (some (.mut _ c)) => match avs ρ r with
      | some as => some (.ref c :: as)
      | none => none
    | _ => none
def slotsOf : List CArg → List Nat
  | [] => []
  | .dat _ :: r => slotsOf r
  | .slot i :: r => i :: slotsOf r
/-- the objects as they are behind the call -/
def putOuts (ρ : Rho) : List Nat → List Cell → Rho
  | i :: is, c :: cs => match ρ[i]? with
    | some (some (.mut b _)) => (putOuts ρ is cs).set i (some (.mut b c))
    | _ => putOuts ρ is cs
  | _, _ => ρ
def callM (F : Fn) (ms : M (List CArg)) : M D := ms.bind fun cs => fun ρ => if (slotsOf cs).Nodup then match avs ρ cs with
  | none => none
  | some as => match F as with
    | none => none
    | some (.ret d outs) => some (.val d (putOuts ρ (slotsOf cs) outs))
    | some (.retF c outs) => some (.val (cellD c) (putOuts ρ (slotsOf cs) outs))
    | some (.exc c outs) => some (.exc c (putOuts ρ (slotsOf cs) outs)) else none
def callF (F : Fn) (ms : M (List CArg)) : M Cell := ms.bind fun cs => fun ρ => if (slotsOf cs).Nodup then match avs ρ cs with
  | none => none
  | some as => match F as with
    | some (.retF c outs) => some (.val c (putOuts ρ (slotsOf cs) outs))
    | some (.exc c outs) => some (.exc c (putOuts ρ (slotsOf cs) outs))
    | _ => none else none

theorem put_len (ρ : Rho) : ∀ (is : List Nat) (cs : List Cell), (putOuts ρ is cs).length = ρ.length
  | [], _ => by simp [putOuts]
  | _ :: _, [] => by simp [putOuts]
  | i :: is, c :: cs => by
    unfold putOuts
    split
    · rw [List.length_set, put_len ρ is cs]
    · exact put_len ρ is cs
theorem put_other {ρ : Rho} {j : Nat} : ∀ (is : List Nat) (cs : List Cell), j ∉ is → (putOuts ρ is cs)[j]? = ρ[j]?
  | [], _, _ => by simp [putOuts]
  | _ :: _, [], _ => by simp [putOuts]
  | i :: is, c :: cs, h => by
    have h1 : i ≠ j := fun z => h (by simp [z])
    have h2 : j ∉ is := fun z => h (by simp [z])
    unfold putOuts
    split
    · rw [List.getElem?_set_ne h1]
      exact put_other is cs h2
    · exact put_other is cs h2
theorem put_at {ρ : Rho} {P : Nat → Cell → Prop} : ∀ {is : List Nat} {cs : List Cell}, is.Nodup → (∀ i ∈ is, ∃ b c, ρ[i]? = some (some (.mut b c))) → Paired P is cs → ∀ i ∈ is, ∃ b c c', ρ[i]? = some (some (.mut b c)) ∧ (putOuts ρ is cs)[i]? = some (some (.mut b c')) ∧ P i c'
  | [], _, _, _, _, i, h => absurd h (by simp)
  | j :: js, _, hn, hm, .cons (b := c) h1 h2, i, hi => by
    rename_i cs
    obtain ⟨b, c0, e0⟩ := hm j (by simp)
    have hl : j < (putOuts ρ js cs).length := by rw [put_len]; exact (List.getElem?_eq_some_iff.mp e0).1
    unfold putOuts
    rw [e0]
    dsimp only
    rcases List.mem_cons.mp hi with e | hi
    · subst e
      exact ⟨b, c0, c, e0, by rw [List.getElem?_set_self hl], h1⟩
    · have hne : j ≠ i := fun z => (List.nodup_cons.mp hn).1 (z ▸ hi)
      obtain ⟨b', c1, c2, e1, e2, h3⟩ := put_at (List.nodup_cons.mp hn).2 (fun i hi => hm i (List.mem_cons_of_mem _ hi)) h2 i hi
      exact ⟨b', c1, c2, e1, by rw [List.getElem?_set_ne hne]; exact e2, h3⟩
theorem avs_ok {σ : L2.St} {ρ : Rho} {f : Nat → Addr} {H : Hp} (R : Rel G σ H ρ f) : ∀ {vs : List V} {cs : List CArg} {as : List Av}, Paired (CArgOk G ρ f H) vs cs → (slotsOf cs).Nodup → avs ρ cs = some as →
    AvL G.K (Bad G ρ f) H vs as ((slotsOf cs).map f) ∧ ∀ i ∈ slotsOf cs, ∃ b c, ρ[i]? = some (some (.mut b c))
  | _, _, _, .nil, _, e => by cases e; exact ⟨.nil, fun i h => absurd h (by simp [slotsOf])⟩
  | _, .dat d :: r, _, .cons h1 h2, hn, e => by
    simp only [avs] at e
    cases e2 : avs ρ r with
    | none => rw [e2] at e; cases e
    | some as =>
      rw [e2] at e
      cases e
      obtain ⟨h3, h4⟩ := avs_ok R h2 (by simpa [slotsOf] using hn) e2
      exact ⟨.dat h1 h3, by simpa [slotsOf] using h4⟩
  | _, .slot i :: r, _, .cons h1 h2, hn, e => by
    have hn' : i ∉ slotsOf r ∧ (slotsOf r).Nodup := by simpa [slotsOf] using hn
    simp only [avs] at e
    split at e
    · rename_i b c e0
      cases e2 : avs ρ r with
      | none => rw [e2] at e; cases e
      | some as =>
        rw [e2] at e
        cases e
        obtain ⟨h3, h4⟩ := avs_ok R h2 hn'.2 e2
        cases h1
        refine ⟨?_, fun j hj => ?_⟩
        · show AvL G.K (Bad G ρ f) H _ _ (f i :: (slotsOf r).map f)
          refine .ref (R.mutBad e0) (R.mutAt e0).2 (fun hm => ?_) h3
          obtain ⟨j, hj, ej⟩ := List.mem_map.mp hm
          obtain ⟨b', c', e'⟩ := h4 j hj
          have := R.inj j i _ _ _ _ e' e0 ej
          subst this
          exact hn'.1 hj
        · rcases List.mem_cons.mp (show j ∈ i :: slotsOf r from hj) with z | z
          · subst z; exact ⟨b, c, e0⟩
          · exact h4 j z
    · cases e
theorem paired_map {α β γ : Type} {P : β → γ → Prop} {g : α → β} : ∀ {l : List α} {cs : List γ}, Paired P (l.map g) cs → Paired (fun a c => P (g a) c) l cs
  | [], _, h => by cases h; exact .nil
  | _ :: _, _, h => by
    cases h with
    | cons h1 h2 => exact .cons h1 (paired_map h2)
/-- behind a call -/
theorem Rel.called {σ : L2.St} {ρ : Rho} {f : Nat → Addr} {H H' : Hp} (R : Rel G σ H ρ f) {is : List Nat} {outs : List Cell} (hn : is.Nodup) (hm : ∀ i ∈ is, ∃ b c, ρ[i]? = some (some (.mut b c))) (k : Keep G.T (is.map f) H H')
    (o : Outs G.K (Bad G ρ f) H' (is.map f) outs) : Rel G σ H' (putOuts ρ is outs) f ∧ Ext (Bad G ρ f) H (Bad G (putOuts ρ is outs) f) H' := by
  refine R.upd is (put_len _ _ _) (fun i hi => put_other is outs hi) (fun i hi => ?_) (fun a ob e hne ht => k.1 a ob e (fun hm => ?_) ht) k.2
  · exact put_at hn hm (paired_map o) i hi
  · obtain ⟨j, hj, ej⟩ := List.mem_map.mp hm
    exact hne j hj ej

theorem call_imp {F : Fn} {ms : M (List CArg)} : ∀ σ H Q, tD G W (callM F ms) σ H Q → tCallS (spF G.K G.mg G.T F) (WE W) (tC' G W ms) σ H Q := by
  rintro σ H Q ⟨ρ, f, r, R, hm, hp⟩
  have hx := xok hp
  have hm0 := hm
  rcases bind_inv hm0 with ⟨c, ρ', e1, e2⟩ | ⟨cs0, ρ0', e1, _⟩
  · exact ⟨ρ, f, _, R, e1, hx c ρ' e2⟩
  refine ⟨ρ, f, _, R, e1, fun vs H1 R1 x1 hvs => ?_⟩
  have hk : (fun ρ => if (slotsOf cs0).Nodup then match avs ρ cs0 with
  | none => none
  | some as => match F as with
    | none => none
    | some (.ret d outs) => some (DL.R.val d (putOuts ρ (slotsOf cs0) outs))
    | some (.retF c outs) => some (DL.R.val (cellD c) (putOuts ρ (slotsOf cs0) outs))
    | some (.exc c outs) => some (DL.R.exc c (putOuts ρ (slotsOf cs0) outs)) else none) ρ0' = some r := by
    have := hm
    unfold callM M.bind at this
    rw [e1] at this
    exact this
  dsimp only at hk
  split at hk
  · rename_i hnd
    cases ea : avs ρ0' cs0 with
    | none => rw [ea] at hk; cases hk
    | some as =>
      rw [ea] at hk
      dsimp only at hk
      obtain ⟨av, ms⟩ := avs_ok R1 hvs hnd ea
      cases eF : F as with
      | none => rw [eF] at hk; cases hk
      | some fr =>
        rw [eF] at hk
        refine ⟨Bad G ρ0' f, as, _, fr, av, ⟨fun a z => R1.bad z, fun a z => ⟨.inl (R1.dom.2 a z).1, (R1.dom.2 a z).2⟩⟩, eF, ?_⟩
        cases fr with
        | ret d outs =>
          cases hk
          intro v H' k o hh
          obtain ⟨R2, x2⟩ := R1.called hnd ms k o
          exact hp v H' R2 (x1.trans x2) (hh.ext fun a ob hb e => ⟨fun z => hb (by
            rcases z with z | ⟨i, c, e, z⟩
            · exact .inl z
            · by_cases hi : i ∈ slotsOf cs0
              · obtain ⟨b, c1, e1⟩ := ms i hi
                rw [z]; exact R1.mutBad e1
              · rw [put_other _ _ hi] at e
                exact .inr ⟨i, c, e, z⟩), e⟩)
        | retF c outs =>
          cases hk
          intro p H' k o h0 ok
          obtain ⟨R2, x2⟩ := R1.called hnd ms k (Paired.mapP o fun q c h => h.ext (fun a ob hb e => ⟨fun z => hb (.inl z), e⟩) rfl)
          have sub : ∀ a, Bad G (putOuts ρ0' (slotsOf cs0) outs) f a → Bad G ρ0' f a := fun a z => by
            rcases z with z | ⟨i, c, e, z⟩
            · exact .inl z
            · by_cases hi : i ∈ slotsOf cs0
              · obtain ⟨b, c1, e1⟩ := ms i hi
                rw [z]; exact R1.mutBad e1
              · rw [put_other _ _ hi] at e
                exact .inr ⟨i, c, e, z⟩
          have ok' : CellOk G.K (Bad G (putOuts ρ0' (slotsOf cs0) outs) f) H' p c := ok.ext (fun a ob hb e => ⟨fun z => hb (.inl (sub a z)), e⟩) rfl
          exact hp _ H' R2 (x1.trans x2) (ok'.has fun z => R1.free h0 (sub p z))
        | exc c outs =>
          cases hk
          intro cls dd H' hc k o
          obtain ⟨R2, x2⟩ := R1.called hnd ms k o
          exact hp cls dd H' hc R2
  · cases hk
theorem callF_imp {F : Fn} {ms : M (List CArg)} : ∀ σ H Q, tF G W (callF F ms) σ H Q → tCallS (spF G.K G.mg G.T F) (WE W) (tC' G W ms) σ H Q := by
  rintro σ H Q ⟨ρ, f, r, R, hm, hp⟩
  have hx := xok hp
  have hm0 := hm
  rcases bind_inv hm0 with ⟨c, ρ', e1, e2⟩ | ⟨cs0, ρ0', e1, _⟩
  · exact ⟨ρ, f, _, R, e1, hx c ρ' e2⟩
  refine ⟨ρ, f, _, R, e1, fun vs H1 R1 x1 hvs => ?_⟩
  have hk : (fun ρ => if (slotsOf cs0).Nodup then match avs ρ cs0 with
  | none => none
  | some as => match F as with
    | some (.retF c outs) => some (DL.R.val c (putOuts ρ (slotsOf cs0) outs))
    | some (.exc c outs) => some (DL.R.exc c (putOuts ρ (slotsOf cs0) outs))
    | _ => none else none) ρ0' = some r := by
    have := hm
    unfold callF M.bind at this
    rw [e1] at this
    exact this
  dsimp only at hk
  split at hk
  · rename_i hnd
    cases ea : avs ρ0' cs0 with
    | none => rw [ea] at hk; cases hk
    | some as =>
      rw [ea] at hk
      dsimp only at hk
      obtain ⟨av, ms⟩ := avs_ok R1 hvs hnd ea
      cases eF : F as with
      | none => rw [eF] at hk; cases hk
      | some fr =>
        rw [eF] at hk
        refine ⟨Bad G ρ0' f, as, _, fr, av, ⟨fun a z => R1.bad z, fun a z => ⟨.inl (R1.dom.2 a z).1, (R1.dom.2 a z).2⟩⟩, eF, ?_⟩
        cases fr with
        | ret d outs => cases hk
        | retF c outs =>
          cases hk
          intro p H' k o h0 ok
          obtain ⟨R2, x2⟩ := R1.called hnd ms k (Paired.mapP o fun q c h => h.ext (fun a ob hb e => ⟨fun z => hb (.inl z), e⟩) rfl)
          have sub : ∀ a, Bad G (putOuts ρ0' (slotsOf cs0) outs) f a → Bad G ρ0' f a := fun a z => by
            rcases z with z | ⟨i, c, e, z⟩
            · exact .inl z
            · by_cases hi : i ∈ slotsOf cs0
              · obtain ⟨b, c1, e1⟩ := ms i hi
                rw [z]; exact R1.mutBad e1
              · rw [put_other _ _ hi] at e
                exact .inr ⟨i, c, e, z⟩
          obtain ⟨ob, eo⟩ := ok.at
          have h0' : H1 p = none := h0
          have RP : Rel (G.plus p) σ (upd H1 p ob) ρ0' f := R1.grow h0 (same_upd h0) ⟨ob, upd_same⟩
          have k' : Keep G.T ((slotsOf cs0).map f) (upd H1 p ob) H' := ⟨fun a o' e hn ht => by
            by_cases hp' : a = p
            · subst hp'
              rw [upd_same] at e
              cases e
              exact eo
            · rw [upd_ne hp'] at e
              exact k.1 a o' e hn ht, k.2⟩
          have o' : Outs G.K (Bad (G.plus p) ρ0' f) H' ((slotsOf cs0).map f) outs := Paired.mapP o fun q c h => h.ext (fun a ob hb e => ⟨fun z => hb (bad_plus.mp z), e⟩) rfl
          have R3 := (RP.called hnd ms k' o').1
          refine hp p H' ⟨R2, R3, ⟨(R1.fresh h0).a, (R1.fresh h0).h0, fun i b c e => ?_⟩, ok.ext (fun a ob hb e => ⟨fun z => hb (z.elim (fun z => .inl (sub a z)) .inr), e⟩) rfl⟩ (fun a ob hb e => ⟨fun z => z.elim ((x1.trans x2) a ob hb e).1 (ne_of_none (x1 a ob hb e).2 h0), ((x1.trans x2) a ob hb e).2⟩)
          by_cases hi : i ∈ slotsOf cs0
          · obtain ⟨b, c1, e1⟩ := ms i hi
            exact (R1.fresh h0).m i _ _ e1
          · rw [put_other _ _ hi] at e
            exact (R1.fresh h0).m i _ _ e
        | exc c outs =>
          cases hk
          intro cls dd H' hc k o
          obtain ⟨R2, x2⟩ := R1.called hnd ms k o
          exact hp cls dd H' hc R2
  · cases hk
/-- a def of the text: it stands at f, its run is F -/
structure Def (P : Program) (w : World) (K : PySem.W.Frag) (mg : Str → Option Value) (base : Heap) (T : Addr → Prop) (k : Nat) (x : Str) (F : Fn) : Prop where
  ex : ∃ (f : Addr) (fd : FuncData) (ps : List Str), FnOk P w K mg base (L2.CX P w) k f fd ps (spF K mg T F) ∧ mg x = some (.ref f) ∧ PySem.W.keepIn K (.ref f) = true ∧ Binds K fd ps []
theorem de_call {j : Nat} {x : Str} {p : Pos} {F : Fn} {ms : M (List CArg)} (d : Def X.prog X.w X.K X.mg X.base G.T k x F) (hr : Room j X.A) (hkj : k ≤ j) (tk : Takes X W) (ha : DC X G W (e :: es) ms) (hg : Gl X x := by rfl) (hK : X.K = G.K := by rfl) (hM : X.mg = G.mg := by rfl)
    (hdb : (x == ("__debug__" : Str)) = false := by decide) (he : starEach (e :: es) X.env = (false, eval e X.env) :: starEach es X.env := by rfl) (hpl : (backTo pos (starEach es X.env)).any (·.1) = false := by rfl) :
    DE X G W (.Call (.Name x p) (e :: es) [] pos) (callM F ms) := by
  obtain ⟨f, fd, ps, h1, h2, h3, h4⟩ := d.ex
  rw [hK, hM] at h1
  exact imp (pe_callS (by rw [hK, hM]; exact h1) (hr.mono hkj) hg h2 h3 h4 (fun σ => passAt tk σ) ha hdb he hpl) call_imp
theorem df_call {j : Nat} {x : Str} {p : Pos} {F : Fn} {ms : M (List CArg)} (d : Def X.prog X.w X.K X.mg X.base G.T k x F) (hr : Room j X.A) (hkj : k ≤ j) (tk : Takes X W) (ha : DC X G W (e :: es) ms) (hg : Gl X x := by rfl) (hK : X.K = G.K := by rfl) (hM : X.mg = G.mg := by rfl)
    (hdb : (x == ("__debug__" : Str)) = false := by decide) (he : starEach (e :: es) X.env = (false, eval e X.env) :: starEach es X.env := by rfl) (hpl : (backTo pos (starEach es X.env)).any (·.1) = false := by rfl) :
    DF X G W (.Call (.Name x p) (e :: es) [] pos) (callF F ms) := by
  obtain ⟨f, fd, ps, h1, h2, h3, h4⟩ := d.ex
  rw [hK, hM] at h1
  exact imp (pe_callS (by rw [hK, hM]; exact h1) (hr.mono hkj) hg h2 h3 h4 (fun σ => passAt tk σ) ha hdb he hpl) callF_imp
end
end DL
namespace DL
open PySem PySem.Spec PyProof.Rows L2

inductive SR where
  | nx (ρ : Rho)
  | ret (d : D) (ρ : Rho)
  | retF (c : Cell) (ρ : Rho)
  | brk (ρ : Rho)
  | ct (ρ : Rho)
  | exc (c : Str) (ρ : Rho)
abbrev SS := Rho → Option SR
@[reducible] def SOut (G : Gc) (W : WX) (E : Ends) (H : Hp) (ρ : Rho) (f : Nat → Addr) : SR → Prop
  | .nx ρ' => ∀ σ' H' f', Rel G σ' H' ρ' f' → Ext (Bad G ρ f) H (Bad G ρ' f') H' → E.nx σ' H'
  | .brk ρ' => ∀ σ' H' f', Rel G σ' H' ρ' f' → Ext (Bad G ρ f) H (Bad G ρ' f') H' → E.bk σ' H'
  | .ct ρ' => ∀ σ' H' f', Rel G σ' H' ρ' f' → Ext (Bad G ρ f) H (Bad G ρ' f') H' → E.ct σ' H'
  | .ret d ρ' => ∀ v σ' H' f', Rel G σ' H' ρ' f' → Has G.K (Bad G ρ' f') H' v d → E.rt v H'
  | .retF c ρ' => ∀ p σ' H' f', NewAt G σ' H' ρ' f' p c → E.rt (.ref p) H'
  | .exc c ρ' => ∀ cls dd σ' H' f', G.mg c = some cls → Rel G σ' H' ρ' f' → W cls dd σ' H'
def tS (G : Gc) (W : WX) (m : SS) : TS := fun E σ H => ∃ ρ f r, Rel G σ H ρ f ∧ m ρ = some r ∧ SOut G W E H ρ f r
abbrev DS (X : Cx) (G : Gc) (W : WX) (st : Stmt) (m : SS) : Prop := PS X st (tS G W m)
abbrev DSs (X : Cx) (G : Gc) (W : WX) (st : List Stmt) (m : SS) : Prop := PSs X st (tS G W m)
theorem impS {X : Cx} {st : Stmt} {t t' : TS} (h : PS X st t) (w : ∀ D σ H, t' D σ H → t D σ H) : PS X st t' := ⟨fun pins s σ H D I hq => h.run pins s σ H D I (w D σ H hq)⟩
theorem impSs {X : Cx} {st : List Stmt} {t t' : TS} (h : PSs X st t) (w : ∀ D σ H, t' D σ H → t D σ H) : PSs X st t' := ⟨fun pins s σ H D I hq => h.run pins s σ H D I (w D σ H hq)⟩
def S.nx : SS := fun ρ => some (.nx ρ)
def S.seq (m n : SS) : SS := fun ρ => match m ρ with
  | some (.nx ρ') => n ρ'
  | r => r
/-- an evaluation, then a step -/
def S.of {α : Type} (m : M α) (k : α → SS) : SS := fun ρ => match m ρ with
  | none => none
  | some (.exc c ρ') => some (.exc c ρ')
  | some (.val a ρ') => k a ρ'
theorem of_inv {α : Type} {m : M α} {k : α → SS} {ρ : Rho} {r : SR} (h : S.of m k ρ = some r) :
    (∃ c ρ', m ρ = some (.exc c ρ') ∧ r = .exc c ρ') ∨ ∃ a ρ', m ρ = some (.val a ρ') ∧ k a ρ' = some r := by
  unfold S.of at h
  cases e : m ρ with
  | none => rw [e] at h; cases h
  | some x =>
    rw [e] at h
    cases x with
    | exc c ρ' => exact .inl ⟨c, ρ', rfl, (Option.some.inj h).symm⟩
    | val a ρ' => exact .inr ⟨a, ρ', rfl, h⟩
theorem SOut.mono {G : Gc} {W : WX} {E : Ends} {H H1 : Hp} {ρ ρ1 : Rho} {f f1 : Nat → Addr} {r : SR} (x : Ext (Bad G ρ f) H (Bad G ρ1 f1) H1) (h : SOut G W E H ρ f r) : SOut G W E H1 ρ1 f1 r := by
  cases r with
  | nx ρ' => exact fun σ' H' f' R y => h σ' H' f' R (x.trans y)
  | brk ρ' => exact fun σ' H' f' R y => h σ' H' f' R (x.trans y)
  | ct ρ' => exact fun σ' H' f' R y => h σ' H' f' R (x.trans y)
  | ret d ρ' => exact h
  | retF c ρ' => exact h
  | exc c ρ' => exact h
theorem SOut.xp {G : Gc} {W : WX} {E : Ends} {H : Hp} {ρ : Rho} {f : Nat → Addr} {r : SR} (h : SOut G W E H ρ f r) {σ : L2.St} {f1 : Nat → Addr} : ∀ c ρ', r = .exc c ρ' → XP G W σ c ρ' f1 := fun c ρ' e cls dd H' hc R => by
  subst e
  exact h cls dd σ H' f1 hc R
section
variable {X : Cx} {G : Gc} {W : WX} {a b c e : Expr} {es : List Expr} {m ma mb mc : M D} {mt mu : M Bool} {pos : Pos} {k : Nat} {st : Stmt} {rest sts : List Stmt} {n n' : SS}
theorem tD_of {α : Type} {m : M D} {k : D → SS} {σ : L2.St} {H : Hp} {ρ : Rho} {f : Nat → Addr} {r : SR} {Q : VK} {E : Ends} (Rl : Rel G σ H ρ f) (h : S.of m k ρ = some r) (hp : SOut G W E H ρ f r)
    (hk : ∀ d ρ' v H', k d ρ' = some r → Rel G σ H' ρ' f → Ext (Bad G ρ f) H (Bad G ρ' f) H' → Has G.K (Bad G ρ' f) H' v d → Q v H') : tD G W m σ H Q := by
  rcases of_inv h with ⟨c, ρ', e1, e2⟩ | ⟨d, ρ', e1, e2⟩
  · exact ⟨ρ, f, _, Rl, e1, hp.xp c ρ' e2⟩
  · exact ⟨ρ, f, _, Rl, e1, fun v H' R' x hh => hk d ρ' v H' e2 R' x hh⟩
theorem tF_of {m : M Cell} {k : Cell → SS} {σ : L2.St} {H : Hp} {ρ : Rho} {f : Nat → Addr} {r : SR} {Q : VK} {E : Ends} (Rl : Rel G σ H ρ f) (h : S.of m k ρ = some r) (hp : SOut G W E H ρ f r)
    (hk : ∀ d ρ' p H', k d ρ' = some r → NewAt G σ H' ρ' f p d → Ext (Bad G ρ f) H (fun a => Bad G ρ' f a ∨ a = p) H' → Q (.ref p) H') : tF G W m σ H Q := by
  rcases of_inv h with ⟨c, ρ', e1, e2⟩ | ⟨d, ρ', e1, e2⟩
  · exact ⟨ρ, f, _, Rl, e1, hp.xp c ρ' e2⟩
  · exact ⟨ρ, f, _, Rl, e1, fun v H' N x => hk d ρ' v H' e2 N x⟩
theorem tT_of {m : M Bool} {k : Bool → SS} {σ : L2.St} {H : Hp} {ρ : Rho} {f : Nat → Addr} {r : SR} {Q : Bool → Hp → Prop} {E : Ends} (Rl : Rel G σ H ρ f) (h : S.of m k ρ = some r) (hp : SOut G W E H ρ f r)
    (hk : ∀ d ρ' H', k d ρ' = some r → Rel G σ H' ρ' f → Ext (Bad G ρ f) H (Bad G ρ' f) H' → Q d H') : tT G W m σ H Q := by
  rcases of_inv h with ⟨c, ρ', e1, e2⟩ | ⟨d, ρ', e1, e2⟩
  · exact ⟨ρ, f, _, Rl, e1, hp.xp c ρ' e2⟩
  · exact ⟨ρ, f, _, Rl, e1, fun H' R' x => hk d ρ' H' e2 R' x⟩
/-! ### blocks -/
theorem dss_nil : DSs X G W [] S.nx := impSs pss_nil fun E σ H ⟨ρ, f, r, R, hm, hp⟩ => by
  cases hm
  exact hp σ H f R (Ext.refl _ _)
theorem dss_one (h : DS X G W st n) : DSs X G W [st] n := pss_one h
theorem dss_cons (h : DS X G W st n) (h2 : DSs X G W rest n') : DSs X G W (st :: rest) (S.seq n n') := by
  refine impSs (pss_cons h h2) ?_
  rintro E σ H ⟨ρ, f, r, R, hm, hp⟩
  unfold S.seq at hm
  cases e : n ρ with
  | none => rw [e] at hm; cases hm
  | some q =>
    rw [e] at hm
    refine ⟨ρ, f, q, R, e, ?_⟩
    cases q with
    | nx ρ1 => exact fun σ1 H1 f1 R1 x1 => ⟨ρ1, f1, r, R1, hm, hp.mono x1⟩
    | ret d ρ1 => cases hm; exact hp
    | retF d ρ1 => cases hm; exact hp
    | brk ρ1 => cases hm; exact hp
    | ct ρ1 => cases hm; exact hp
    | exc c ρ1 => cases hm; exact hp
theorem ds_pass : DS X G W (.Pass pos) S.nx := impS ps_pass fun E σ H ⟨ρ, f, r, R, hm, hp⟩ => by
  cases hm
  exact hp σ H f R (Ext.refl _ _)
def S.brk : SS := fun ρ => some (.brk ρ)
def S.ct : SS := fun ρ => some (.ct ρ)
theorem ds_break : DS X G W (.Break pos) S.brk := impS ps_break fun E σ H ⟨ρ, f, r, R, hm, hp⟩ => by
  cases hm
  exact hp σ H f R (Ext.refl _ _)
theorem ds_continue : DS X G W (.Continue pos) S.ct := impS ps_continue fun E σ H ⟨ρ, f, r, R, hm, hp⟩ => by
  cases hm
  exact hp σ H f R (Ext.refl _ _)
def S.ret (m : M D) : SS := S.of m fun d ρ => some (.ret d ρ)
def S.retF (m : M Cell) : SS := S.of m fun c ρ => some (.retF c ρ)
theorem ds_ret (h : DE X G W e m) : DS X G W (.Return (some e) pos) (S.ret m) := by
  refine impS (ps_ret h) ?_
  rintro E σ H ⟨ρ, f, r, R, hm, hp⟩
  refine tD_of (α := D) R hm hp fun d ρ1 v H1 hk R1 x1 hv => ?_
  cases hk
  exact hp v σ H1 f R1 hv
theorem ds_retF {m : M Cell} (h : DF X G W e m) : DS X G W (.Return (some e) pos) (S.retF m) := by
  refine impS (ps_ret h) ?_
  rintro E σ H ⟨ρ, f, r, R, hm, hp⟩
  refine tF_of R hm hp fun d ρ1 v H1 hk N x1 => ?_
  cases hk
  exact hp v σ H1 f N
def S.retN : SS := fun ρ => some (.ret .none ρ)
theorem ds_retN : DS X G W (.Return none pos) S.retN := impS ps_retN fun E σ H ⟨ρ, f, r, R, hm, hp⟩ => by
  cases hm
  exact hp .non σ H f R .non
def S.drop (m : M D) : SS := S.of m fun _ ρ => some (.nx ρ)
theorem ds_expr (h : DE X G W e m) (hs : swapsWith e none pos.line X.env = pure false := by rfl) : DS X G W (.Expr e pos) (S.drop m) := by
  refine impS (ps_expr h hs) ?_
  rintro E σ H ⟨ρ, f, r, R, hm, hp⟩
  refine tD_of (α := D) R hm hp fun d ρ1 v H1 hk R1 x1 hv => ?_
  cases hk
  exact hp σ H1 f R1 x1
def S.ife (mt : M Bool) (n n' : SS) : SS := S.of mt fun t => if t = true then n else n'
theorem ds_if {sa sb : List Stmt} (ht : DT X G W c mt) (ha : DSs X G W sa n) (hb : DSs X G W sb n') : DS X G W (.If c sa sb pos) (S.ife mt n n') := by
  refine impS (ps_if ht ha hb) ?_
  rintro E σ H ⟨ρ, f, r, R, hm, hp⟩
  refine tT_of R hm hp fun t ρ1 H1 hk R1 x1 => ?_
  cases t with
  | true => rw [if_pos rfl] at hk ⊢; exact ⟨ρ1, f, r, R1, hk, hp.mono x1⟩
  | false => rw [if_neg Bool.false_ne_true] at hk ⊢; exact ⟨ρ1, f, r, R1, hk, hp.mono x1⟩
end

/-! ### stores -/
def isMut : Sl → Bool
  | .mut _ _ => true
  | _ => false
def isInn (ρ : Rho) (i : Nat) : Bool := match ρ[i]? with
  | some (some (.mut false _)) => true
  | _ => false
section
variable {G : Gc} {σ : L2.St} {H : Hp} {ρ : Rho} {f : Nat → Addr} {i : Nat} {c : Cell}
/-- slot i holds data, or nothing that is known -/
theorem Rel.put (R : Rel G σ H ρ f) (hi : isInn ρ i = false) {s : Option Sl} {w : Option V} (hs : ∀ t, s = some t → isMut t = false ∧ ∃ v, w = some v ∧ ∀ q, SlOk G (Bad G ρ f) H q v t) :
    Rel G (σ.set i w) H (ρ.set i s) f ∧ Ext (Bad G ρ f) H (Bad G (ρ.set i s) f) H := by
  have nm : ∀ b c, s = some (.mut b c) → False := fun b c e => by
    have := (hs _ e).1
    cases this
  have sub : ∀ a, Bad G (ρ.set i s) f a → Bad G ρ f a := fun a z => by
    rcases z with z | ⟨j, c', e, z⟩
    · exact .inl z
    · rcases get_set e with ⟨_, e2, _⟩ | ⟨_, e2⟩
      · exact (nm _ _ e2.symm).elim
      · exact .inr ⟨j, c', e2, z⟩
  have x : Ext (Bad G ρ f) H (Bad G (ρ.set i s) f) H := fun a o hb e => ⟨fun z => hb (sub a z), e⟩
  refine ⟨⟨?_, R.keep, R.dom, fun j c' e => ?_, fun j k b c' b' c'' e1 e2 z => ?_, fun j c' e => ?_, fun p hp => ?_, fun j t e => ?_⟩, x⟩
  · rw [List.length_set, List.length_set]; exact R.len
  · rcases get_set e with ⟨_, e2, _⟩ | ⟨_, e2⟩
    · exact (nm _ _ e2.symm).elim
    · exact R.own j c' e2
  · rcases get_set e1 with ⟨_, e3, _⟩ | ⟨_, e3⟩
    · exact (nm _ _ e3.symm).elim
    · rcases get_set e2 with ⟨_, e4, _⟩ | ⟨_, e4⟩
      · exact (nm _ _ e4.symm).elim
      · exact R.inj j k _ _ _ _ e3 e4 z
  · rcases get_set e with ⟨_, e2, _⟩ | ⟨_, e2⟩
    · exact (nm _ _ e2.symm).elim
    · exact R.inn j c' e2
  · obtain ⟨c', e1, e2⟩ := R.innB p hp
    refine ⟨c', ?_, e2⟩
    have ne : i ≠ p.1 := fun z => by
      rw [← z] at e1
      unfold isInn at hi
      rw [e1] at hi
      cases hi
    rw [List.getElem?_set_ne ne]
    exact e1
  · rcases get_set e with ⟨e1, e2, hl⟩ | ⟨hj, e2⟩
    · subst e1
      obtain ⟨_, v, ev, h⟩ := hs t e2.symm
      have hl' : j < σ.length := by rw [R.len]; exact hl
      refine ⟨v, by rw [List.getElem?_set_self hl', ev], (h (f j)).ext x fun _ => rfl⟩
    · obtain ⟨v, e3, h3⟩ := R.sl j t e2
      exact ⟨v, by rw [List.getElem?_set_ne (Ne.symm hj)]; exact e3, h3.ext x fun _ => rfl⟩
theorem Rel.putD (R : Rel G σ H ρ f) (hi : isInn ρ i = false) {d : D} {v : V} (h : Has G.K (Bad G ρ f) H v d) : Rel G (σ.set i (some v)) H (ρ.set i (some (.dat d))) f ∧ Ext (Bad G ρ f) H (Bad G (ρ.set i (some (.dat d))) f) H :=
  R.put hi fun t e => by cases e; exact ⟨rfl, v, rfl, fun _ => h⟩
def setF (f : Nat → Addr) (i : Nat) (p : Addr) : Nat → Addr := fun j => if j = i then p else f j
theorem setF_at {i j : Nat} {p : Addr} (h : j = i) : setF f i p j = p := if_pos h
theorem setF_ne {i j : Nat} {p : Addr} (h : j ≠ i) : setF f i p j = f j := if_neg h
/-- slot i holds a new object -/
theorem NewAt.put {p : Addr} (N : NewAt G σ H ρ f p c) (hi : isInn ρ i = false) :
    ∃ f', Rel G (σ.set i (some (.ref p))) H (ρ.set i (some (.mut true c))) f' ∧ ∀ a, Bad G (ρ.set i (some (.mut true c))) f' a → Bad G ρ f a ∨ a = p := by
  obtain ⟨R, RP, fr, ok⟩ := N
  refine ⟨setF f i p, ?_⟩
  have sub : ∀ a, Bad G (ρ.set i (some (.mut true c))) (setF f i p) a → Bad G ρ f a ∨ a = p := fun a z => by
    rcases z with z | ⟨j, c', e, z⟩
    · exact .inl (.inl z)
    · rcases get_set e with ⟨e1, _, _⟩ | ⟨hj, e2⟩
      · rw [setF_at e1] at z
        exact .inr z
      · rw [setF_ne hj] at z
        exact .inl (.inr ⟨j, c', e2, z⟩)
  have x : Ext (fun a => Bad G ρ f a ∨ a = p) H (Bad G (ρ.set i (some (.mut true c))) (setF f i p)) H := fun a o hb e => ⟨fun z => hb (sub a z), e⟩
  refine ⟨⟨?_, R.keep, R.dom, fun j c' e => ?_, fun j k b c' b' c'' e1 e2 z => ?_, fun j c' e => ?_, fun q hq => ?_, fun j t e => ?_⟩, sub⟩
  · rw [List.length_set, List.length_set]; exact R.len
  · rcases get_set e with ⟨e1, e2, _⟩ | ⟨hj, e2⟩
    · rw [setF_at e1]
      exact ⟨fr.a, fr.h0⟩
    · rw [setF_ne hj]
      exact R.own j c' e2
  · rcases get_set e1 with ⟨h1, e3, _⟩ | ⟨h1, e3⟩
    · rcases get_set e2 with ⟨h2, e4, _⟩ | ⟨h2, e4⟩
      · rw [h1, h2]
      · rw [setF_at h1, setF_ne h2] at z
        exact absurd z.symm (fr.m k _ _ e4)
    · rcases get_set e2 with ⟨h2, e4, _⟩ | ⟨h2, e4⟩
      · rw [setF_ne h1, setF_at h2] at z
        exact absurd z (fr.m j _ _ e3)
      · rw [setF_ne h1, setF_ne h2] at z
        exact R.inj j k _ _ _ _ e3 e4 z
  · rcases get_set e with ⟨_, e2, _⟩ | ⟨hj, e2⟩
    · cases e2
    · rw [setF_ne hj]
      exact R.inn j c' e2
  · obtain ⟨c', e1, e2⟩ := R.innB q hq
    have ne : i ≠ q.1 := fun z => by
      rw [← z] at e1
      unfold isInn at hi
      rw [e1] at hi
      cases hi
    refine ⟨c', ?_, ?_⟩
    · rw [List.getElem?_set_ne ne]
      exact e1
    · rw [setF_ne (Ne.symm ne)]
      exact e2
  · rcases get_set e with ⟨e1, e2, hl⟩ | ⟨hj, e2⟩
    · subst e1
      cases e2
      have hl' : j < σ.length := by rw [R.len]; exact hl
      rw [setF_at rfl]
      exact ⟨.ref p, by rw [List.getElem?_set_self hl'], rfl, ok.ext x rfl⟩
    · obtain ⟨v, e3, h3⟩ := RP.sl j t e2
      rw [setF_ne hj]
      exact ⟨v, by rw [List.getElem?_set_ne (Ne.symm hj)]; exact e3, (h3.ext (fun a o hb e => ⟨fun z => hb (bad_plus.mpr (sub a z)), e⟩) fun _ => rfl).minus⟩
end
end DL
namespace DL
open PySem PySem.Spec PyProof.Rows L2

/-! ### targets -/
abbrev TgM := D → Rho → Option Rho
def tGt (G : Gc) (m : TgM) : TG := fun v σ H Q => ∃ ρ f d ρ', Rel G σ H ρ f ∧ Has G.K (Bad G ρ f) H v d ∧ m d ρ = some ρ' ∧ ∀ σ' f', Rel G σ' H ρ' f' → Ext (Bad G ρ f) H (Bad G ρ' f') H → Q σ' H
abbrev DG (X : Cx) (G : Gc) (e : Expr) (m : TgM) : Prop := PG X e (tGt G m)
def tGts (G : Gc) (m : List D → Rho → Option Rho) : TGs := fun vs σ H Q => ∃ ρ f ds ρ', Rel G σ H ρ f ∧ HasL G.K (Bad G ρ f) H vs ds ∧ m ds ρ = some ρ' ∧ ∀ σ' f', Rel G σ' H ρ' f' → Ext (Bad G ρ f) H (Bad G ρ' f') H → Q σ' H
abbrev DGs (X : Cx) (G : Gc) (es : List Expr) (m : List D → Rho → Option Rho) : Prop := PGs X es (tGts G m)
def tgN (i : Nat) : TgM := fun d ρ => if isInn ρ i = true then none else some (ρ.set i (some (.dat d)))
def tgNil : List D → Rho → Option Rho := fun ds ρ => match ds with
  | [] => some ρ
  | _ => none
def tgCons (m : TgM) (r : List D → Rho → Option Rho) : List D → Rho → Option Rho := fun ds ρ => match ds with
  | d :: ds => (m d ρ).bind (r ds)
  | [] => none
def tgT (n : Nat) (r : List D → Rho → Option Rho) : TgM := fun d ρ => match d with
  | .tuple ds => if ds.length = n then r ds ρ else none
  | _ => none
section
variable {X : Cx} {G : Gc} {W : WX} {a b c e tg : Expr} {es : List Expr} {m ma mb mc : M D} {mt mu : M Bool} {pos : Pos} {k : Nat} {st : Stmt} {rest sts : List Stmt} {n n' : SS} {gm : TgM} {gr : List D → Rho → Option Rho}
theorem impG {t t' : TG} (h : PG X e t) (w : ∀ v σ H Q, t' v σ H Q → t v σ H Q) : PG X e t' := ⟨fun pins s σ H v u Q I r hq => h.run pins s σ H v u Q I r (w v σ H Q hq)⟩
theorem impGs {t t' : TGs} (h : PGs X es t) (w : ∀ v σ H Q, t' v σ H Q → t v σ H Q) : PGs X es t' := ⟨fun pins s σ H v u Q I r hq => h.run pins s σ H v u Q I r (w v σ H Q hq)⟩
theorem dg_name {x : Str} (i : Nat) (hN : X.N.Nodup) (hi : X.N[i]? = some x := by rfl) (hx : Loc X.env.scope x := by first | exact Or.inl rfl | exact Or.inr rfl) (hf : X.fn x = true ∨ X.env.scope.names.lookup x = some .local := by first | exact .inl rfl | exact .inr rfl | assumption) : DG X G (.Name x pos) (tgN i) := by
  refine impG (pg_name hN hi hx hf) ?_
  rintro v σ H Q ⟨ρ, f, d, ρ', R, h, hm, q⟩
  unfold tgN at hm
  split at hm
  · cases hm
  · rename_i hin
    cases hm
    obtain ⟨R', x⟩ := R.putD (i := i) (by simpa using hin) h
    exact q _ f R' x
theorem dgs_nil : DGs X G [] tgNil := impGs pgs_nil fun v σ H Q ⟨ρ, f, ds, ρ', R, h, hm, q⟩ => by
  cases h with
  | nil => cases hm; exact ⟨rfl, q σ f R (Ext.refl _ _)⟩
  | cons _ _ => cases hm
theorem dgs_cons (h : DG X G e gm) (h2 : DGs X G es gr) (hs : (assignEach (e :: es) X.env).map (·.2) = assign e X.env :: (assignEach es X.env).map (·.2) := by rfl) : DGs X G (e :: es) (tgCons gm gr) := by
  refine impGs (pgs_cons h h2 hs) ?_
  rintro v σ H Q ⟨ρ, f, ds, ρ', R, h, hm, q⟩
  cases h with
  | nil => cases hm
  | cons h1 h2 =>
    obtain ⟨ρ1, e1, e2⟩ := Option.bind_eq_some_iff.mp (show (gm _ ρ).bind _ = some ρ' from hm)
    exact ⟨_, _, rfl, ρ, f, _, ρ1, R, h1, e1, fun σ1 f1 R1 x1 => ⟨ρ1, f1, _, ρ', R1, h2.ext x1, e2, fun σ2 f2 R2 x2 => q σ2 f2 R2 (x1.trans x2)⟩⟩
theorem dg_tup {kk l : Nat} (hc : X.calm = true) (h : DGs X G es gr) (hn : (assignEach es X.env).length = l := by rfl) (hst : (assignEach es X.env).findIdx? (·.1) = none := by rfl) (hk : X.K = G.K := by rfl) : DG X G (.Tuple es kk pos) (tgT l gr) := by
  refine impG (pg_tup hc h hn hst) ?_
  rintro v σ H Q ⟨ρ, f, d, ρ', R, h, hm, q⟩
  cases d <;> try (cases hm)
  rename_i ds
  simp only [tgT] at hm
  split at hm
  · rename_i hl
    obtain ⟨a, xs, rfl, r1, s1, h1⟩ := h.tup_inv
    exact ⟨a, xs, rfl, hk ▸ s1, by rw [h1.length]; exact hl, ρ, f, ds, ρ', R, h1, hm, q⟩
  · cases hm
/-- target = e -/
def S.asg (m : M D) (g : TgM) : SS := S.of m fun d ρ => match g d ρ with
  | some ρ' => some (.nx ρ')
  | none => none
theorem asg_imp {g : TgM} : ∀ E σ H, tS G W (S.asg m g) E σ H → tAsg (tD G W m) (tGt G g) E σ H := by
  rintro E σ H ⟨ρ, f, r, R, hm, hp⟩
  refine tD_of (α := D) R hm hp fun d ρ1 v H1 hk R1 x1 hv => ?_
  cases e : g d ρ1 with
  | none => rw [e] at hk; cases hk
  | some ρ2 =>
    rw [e] at hk
    cases hk
    exact ⟨ρ1, f, d, ρ2, R1, hv, e, fun σ' f' R' x' => hp σ' H1 f' R' (x1.trans x')⟩
theorem ds_asg {g : TgM} (he : DE X G W e m) (hg : DG X G tg g) (hs : swapsWithSole [tg] e pos.line X.env = pure false := by rfl) (hw : swappedStores [tg] e X.env = pure none := by rfl)
    (h1 : (assignEach [tg] X.env).map (·.2) = [assign tg X.env] := by rfl) : DS X G W (.Assign [tg] e pos) (S.asg m g) := impS (ps_asg he hg hs hw h1) asg_imp
theorem ds_set {x : Str} {pos' : Pos} (i : Nat) (hN : X.N.Nodup) (he : DE X G W e m) (hi : X.N[i]? = some x := by rfl) (hx : Loc X.env.scope x := by first | exact Or.inl rfl | exact Or.inr rfl)
    (hs : swapsWith e (some (.Name x pos')) pos.line X.env = pure false := by rfl) (hf : X.fn x = true ∨ X.env.scope.names.lookup x = some .local := by first | exact .inl rfl | exact .inr rfl | assumption) : DS X G W (.Assign [.Name x pos'] e pos) (S.asg m (tgN i)) := by
  refine impS (ps_set hN hi hx he hs hf) ?_
  rintro E σ H ⟨ρ, f, r, R, hm, hp⟩
  refine tD_of (α := D) R hm hp fun d ρ1 v H1 hk R1 x1 hv => ?_
  unfold tgN at hk
  split at hk
  · rename_i ρ2 e2
    split at e2
    · cases e2
    · rename_i hin
      cases e2
      cases hk
      obtain ⟨R', x⟩ := R1.putD (i := i) (by simpa using hin) hv
      exact hp _ H1 f R' (x1.trans x)
  · cases hk
/-- a name holds a new object that is changed later on -/
def S.setF (m : M Cell) (i : Nat) : SS := S.of m fun c ρ => if isInn ρ i = true then none else some (.nx (ρ.set i (some (.mut true c))))
theorem ds_setF {m : M Cell} {x : Str} {pos' : Pos} (i : Nat) (hN : X.N.Nodup) (he : DF X G W e m) (hi : X.N[i]? = some x := by rfl) (hx : Loc X.env.scope x := by first | exact Or.inl rfl | exact Or.inr rfl)
    (hs : swapsWith e (some (.Name x pos')) pos.line X.env = pure false := by rfl) (hf : X.fn x = true ∨ X.env.scope.names.lookup x = some .local := by first | exact .inl rfl | exact .inr rfl | assumption) : DS X G W (.Assign [.Name x pos'] e pos) (S.setF m i) := by
  refine impS (ps_set hN hi hx he hs hf) ?_
  rintro E σ H ⟨ρ, f, r, R, hm, hp⟩
  refine tF_of R hm hp fun d ρ1 p H1 hk N x1 => ?_
  split at hk
  · cases hk
  · rename_i hin
    cases hk
    obtain ⟨f', R', sub⟩ := N.put (i := i) (by simpa using hin)
    exact hp _ H1 f' R' fun a o hb e => ⟨fun z => (x1 a o hb e).1 (sub a z), (x1 a o hb e).2⟩

/-! ### what is walked -/
structure WalkOk (G : Gc) (B : Addr → Prop) (H : Hp) (ds : List D) (J : It) (n : Nat) (Gh : Hp → Prop) (Y : Nat → Hp → V → Hp → Prop) : Prop where
  len : ds.length = n
  walk : Walk J n Gh Y
  keep : ∀ B' H', Ext B H B' H' → Gh H'
  item : ∀ i d B' H1 x H2, ds[i]? = some d → Ext B H B' H1 → (∀ p, H1 p = none → ¬ B' p) → Y i H1 x H2 → Same H1 H2 ∧ Has G.K B' H2 x d
def tI (G : Gc) (W : WX) (m : M (List D)) : TI := fun σ H Rr => ∃ ρ f r, Rel G σ H ρ f ∧ m ρ = some r ∧
  Out r (fun ds ρ' => ∀ J n Gh Y H', Rel G σ H' ρ' f → Ext (Bad G ρ f) H (Bad G ρ' f) H' → WalkOk G (Bad G ρ' f) H' ds J n Gh Y → Rr J H') (fun c ρ' => XP G W σ c ρ' f)
abbrev DI (X : Cx) (G : Gc) (W : WX) (tg e : Expr) (m : M (List D)) : Prop := PI X tg e (tI G W m)
theorem impI {t t' : TI} (h : PI X tg e t) (w : ∀ σ H R, t' σ H R → t σ H R) : PI X tg e t' := ⟨fun pins s σ H R I hq => h.run pins s σ H R I (w σ H R hq)⟩
/-- data that is walked -/
def itemsD : D → Option (List D)
  | .list ds => some ds
  | .tuple ds => some ds
  | .str z => some (z.cps.toList.map fun c => .str ⟨#[c]⟩)
  | _ => none
def M.items (m : M D) : M (List D) := m.bind fun d => .lift (itemsD d)
def iSeq (K : PySem.W.Frag) (tl : TE) : TI := fun σ H R => tl σ H fun x H1 => (∃ a xs, x = .ref a ∧ SqL K H1 a xs ∧ R (Itl K a) H1) ∨ (∃ a xs, x = .ref a ∧ SqT K H1 a xs ∧ R (Itt K a) H1) ∨ ∃ z, x = .str z ∧ R (Its z) H1
theorem pi_seq {l : Expr} {tl : TE} (hl : PE X l tl) : PI X tg l (iSeq X.K tl) := by
  refine ⟨fun pins s σ H R I h => ?_⟩
  refine thn (hl.run pins s σ H _ I h) fun v s1 ⟨x, H1, I1, r1, q1⟩ => ?_
  rcases q1 with ⟨a, xs, e, hq, q⟩ | ⟨a, xs, e, hq, q⟩ | ⟨z, e, q⟩
  · subst e
    cases r1
    obtain ⟨its, rv, p, hz⟩ := I1.list hq
    refine wpAny_pyIter_list p.isList ?_
    refine ⟨s1.heap.objs.size, [s1.heap.objs.size], _, _, H1, rfl, I1.kept (t' := s1.toks) fun b o e => Heap.get?_push_of_some _ e, turn_list a _, ⟨_, Heap.get?_push_size _ rfl, rfl, rfl⟩, fun b hb => ?_, q⟩
    have e : b = s1.heap.objs.size := by simpa using hb
    subst e
    exact I1.fpOk (Nat.le_refl _) (I1.hok.fresh (Nat.le_refl _))
  · subst e
    cases r1
    obtain ⟨its, rv, p, hz⟩ := I1.tuple hq
    refine wpAny_pyIter_tuple (show s1.heap.IsTuple a its.toArray from p) ?_
    refine ⟨s1.heap.objs.size, [s1.heap.objs.size], _, _, H1, rfl, I1.kept (t' := s1.toks) fun b o e => Heap.get?_push_of_some _ e, turn_tuple a _, ⟨_, Heap.get?_push_size _ rfl, rfl, rfl⟩, fun b hb => ?_, q⟩
    have e : b = s1.heap.objs.size := by simpa using hb
    subst e
    exact I1.fpOk (Nat.le_refl _) (I1.hok.fresh (Nat.le_refl _))
  · subst e
    obtain ⟨t, rfl⟩ := r1
    cases ha : z.cps.all (· < 128)
    · exact wpAny_pyIter_wide ha (pi_one (tk := s1.toks) I1 _ (turn_str _ z t "str_iterator" (.inr rfl)) ⟨_, Heap.get?_push_size _ rfl, rfl, rfl⟩ q)
    · exact wpAny_pyIter_ascii ha (pi_one (tk := s1.toks) I1 _ (turn_str _ z t "str_ascii_iterator" (.inl rfl)) ⟨_, Heap.get?_push_size _ rfl, rfl, rfl⟩ q)
theorem rd_keep {B B' : Addr → Prop} {H H' : Hp} {K : PySem.W.Frag} {a : Addr} {xs : List V} (h : (¬ B a ∧ Rd H a (.lst xs)) ∨ KL K a xs) (x : Ext B H B' H') : SqL K H' a xs := h.elim (fun h => .inl (x.rd h.1 h.2).2) .inr
theorem sqt_keep {B B' : Addr → Prop} {H H' : Hp} {K : PySem.W.Frag} {a : Addr} {xs : List V} (h : (¬ B a ∧ Rd H a (.tup xs)) ∨ KT K a xs) (x : Ext B H B' H') : SqT K H' a xs := h.elim (fun h => .inl (x.rd h.1 h.2).2) .inr
theorem di_items (h : DE X G W e m) (hk : X.K = G.K := by rfl) : DI X G W tg e (M.items m) := by
  refine impI (pi_seq h) ?_
  rintro σ H Rr ⟨ρ, f, r, R, hm, hp⟩
  refine tD_bind R hm (xok hp) fun d ρ1 v H1 hk1 R1 x1 hv => ?_
  obtain ⟨ds, e, er⟩ := lift_inv hk1
  subst er
  cases d <;> try (cases e)
  · rename_i z
    refine .inr (.inr ⟨z, hv.str_inv, hp _ _ _ _ H1 R1 x1 ⟨by simp, walk_str, fun _ _ _ => trivial, fun i d B' H2 x H3 e x2 hf y => ?_⟩⟩)
    obtain ⟨rfl, c, e1, rfl⟩ := y
    refine ⟨Same.refl _, ?_⟩
    rw [List.getElem?_map, Array.getElem?_toList, e1] at e
    cases e
    exact .str _
  · obtain ⟨a, xs, rfl, h1, s1, h2⟩ := hv.lst_inv
    refine .inl ⟨a, xs, rfl, hk ▸ s1, hp _ _ _ _ H1 R1 x1 ⟨h2.length.symm, walk_list, fun B' H' x => by rw [hk]; exact rd_keep h1 x, fun i d B' H2 x H3 e x2 hf y => ?_⟩⟩
    obtain ⟨rfl, e1⟩ := y
    obtain ⟨v, e2, h3⟩ := h2.get e
    rw [e1] at e2
    cases e2
    exact ⟨Same.refl _, h3.ext x2⟩
  · obtain ⟨a, xs, rfl, h1, s1, h2⟩ := hv.tup_inv
    refine .inr (.inl ⟨a, xs, rfl, hk ▸ s1, hp _ _ _ _ H1 R1 x1 ⟨h2.length.symm, walk_tup, fun B' H' x => by rw [hk]; exact sqt_keep h1 x, fun i d B' H2 x H3 e x2 hf y => ?_⟩⟩)
    obtain ⟨rfl, e1⟩ := y
    obtain ⟨v, e2, h3⟩ := h2.get e
    rw [e1] at e2
    cases e2
    exact ⟨Same.refl _, h3.ext x2⟩
/-! ranges -/
def rangeL (lo hi : Int) : List D := (List.range (hi - lo).toNat).map fun i => .int (lo + (i : Nat))
def okR (i : Int) : Bool := decide (-(2 ^ 62) ≤ i) && decide (i < 2 ^ 62)
def rng1D : List D → Option (List D)
  | [.int j] => if okR j = true then some (rangeL 0 j) else none
  | _ => none
def rng2D : List D → Option (List D)
  | [.int i, .int j] => if okR i = true ∧ okR j = true then some (rangeL i j) else none
  | _ => none
def M.rng1 (ms : M (List D)) : M (List D) := ms.bind fun ds => .lift (rng1D ds)
def M.rng2 (ms : M (List D)) : M (List D) := ms.bind fun ds => .lift (rng2D ds)
theorem okR_spec {i : Int} (h : okR i = true) : -(2 ^ 62) ≤ i ∧ i < 2 ^ 62 := by simpa [okR] using h
theorem walk_rng {B : Addr → Prop} {H : Hp} {lo hi : Int} : WalkOk G B H (rangeL lo hi) (Itr lo (hi - lo).toNat) (hi - lo).toNat (fun _ => True) (YFn fun i => .int (lo + i)) := by
  refine ⟨by simp [rangeL], walk_range, fun _ _ _ => trivial, fun i d B' H2 x H3 e x2 hf y => ?_⟩
  obtain ⟨rfl, rfl⟩ := y
  refine ⟨Same.refl _, ?_⟩
  simp only [rangeL, List.getElem?_map] at e
  cases e2 : (List.range (hi - lo).toNat)[i]? with
  | none => rw [e2] at e; cases e
  | some j =>
    rw [e2] at e
    have := List.getElem?_eq_some_iff.mp e2
    obtain ⟨h1, h2⟩ := this
    rw [List.getElem_range] at h2
    subst h2
    cases e
    exact .int _
theorem di_range1 {p : Pos} {ms : M (List D)} (hm : X.mg "range" = none) (ha : DA X G W [a] ms) (hg : Gl X "range" := by rfl) (hs : starEach [a] X.env = [(false, eval a X.env)] := by rfl) : DI X G W tg (.Call (.Name "range" p) [a] [] pos) (M.rng1 ms) := by
  refine impI (pi_range1 hg hm ha hs) ?_
  rintro σ H Rr ⟨ρ, f, r, R, hm, hp⟩
  refine tA_bind R hm (xok hp) fun ds ρ1 vs H1 hk1 R1 x1 hv => ?_
  obtain ⟨es, e, er⟩ := lift_inv hk1
  subst er
  unfold rng1D at e
  split at e
  · split at e
    · rename_i j ho
      cases e
      cases hv with
      | cons h1 h2 =>
        cases h2
        have o := okR_spec ho
        have hh := hp (Itr 0 (j - 0).toNat) _ _ _ H1 R1 x1 walk_rng
        rw [Int.sub_zero] at hh
        exact ⟨j, by rw [h1.int_inv], o.1, o.2, hh⟩
    · cases e
  · cases e
theorem di_range2 {p : Pos} {ms : M (List D)} (hm : X.mg "range" = none) (ha : DA X G W [a, b] ms) (hg : Gl X "range" := by rfl) (hs : starEach [a, b] X.env = [(false, eval a X.env), (false, eval b X.env)] := by rfl) (hs2 : starEach [b] X.env = [(false, eval b X.env)] := by rfl) :
    DI X G W tg (.Call (.Name "range" p) [a, b] [] pos) (M.rng2 ms) := by
  refine impI (pi_range2 hg hm ha hs hs2) ?_
  rintro σ H Rr ⟨ρ, f, r, R, hm, hp⟩
  refine tA_bind R hm (xok hp) fun ds ρ1 vs H1 hk1 R1 x1 hv => ?_
  obtain ⟨es, e, er⟩ := lift_inv hk1
  subst er
  unfold rng2D at e
  split at e
  · split at e
    · rename_i i j ho
      cases e
      cases hv with
      | cons h1 h2 =>
        cases h2 with
        | cons h2 h3 =>
          cases h3
          have o1 := okR_spec ho.1
          have o2 := okR_spec ho.2
          exact ⟨i, j, by rw [h1.int_inv, h2.int_inv], ⟨o1.1, o1.2, o2.1, o2.2⟩, hp _ _ _ _ H1 R1 x1 walk_rng⟩
    · cases e
  · cases e

/-! ### for -/
/-- behind a loop's turn -/
def S.turn (body next : SS) : SS := fun ρ => match body ρ with
  | some (.nx ρ2) => next ρ2
  | some (.ct ρ2) => next ρ2
  | some (.brk ρ2) => some (.nx ρ2)
  | q => q
def loopM (g : TgM) (body : SS) : List D → SS
  | [] => S.nx
  | d :: r => fun ρ => match g d ρ with
    | none => none
    | some ρ1 => S.turn body (loopM g body r) ρ1
def S.forS (ms : M (List D)) (g : TgM) (body : SS) : SS := S.of ms fun ds => loopM g body ds
theorem tI_of {ms : M (List D)} {k : List D → SS} {σ : L2.St} {H : Hp} {ρ : Rho} {f : Nat → Addr} {r : SR} {Q : It → Hp → Prop} {E : Ends} (Rl : Rel G σ H ρ f) (h : S.of ms k ρ = some r) (hp : SOut G W E H ρ f r)
    (hk : ∀ ds ρ' J n Gh Y H', k ds ρ' = some r → Rel G σ H' ρ' f → Ext (Bad G ρ f) H (Bad G ρ' f) H' → WalkOk G (Bad G ρ' f) H' ds J n Gh Y → Q J H') : tI G W ms σ H Q := by
  rcases of_inv h with ⟨c, ρ', e1, e2⟩ | ⟨d, ρ', e1, e2⟩
  · exact ⟨ρ, f, _, Rl, e1, hp.xp c ρ' e2⟩
  · exact ⟨ρ, f, _, Rl, e1, fun J n Gh Y H' R' x hh => hk d ρ' J n Gh Y H' e2 R' x hh⟩
theorem ds_for {ms : M (List D)} {g : TgM} {body : List Stmt} (hp : PassesOwn (model X.prog X.w) X.A X.env X.xe) (hc : X.calm = true) (hi : DI X G W tg e ms) (hg : DG X G tg g) (hb : DSs X G W body n)
    (hs : ∀ x, foldedSetIterable e X.env x = pure x := by intro _; rfl) : DS X G W (.For tg e body [] pos) (S.forS ms g n) := by
  refine impS (ps_for hp hc hi hg hb hs) ?_
  rintro E σ H ⟨ρ, f, r, R, hm, hp⟩
  refine tI_of R hm hp fun ds ρ1 J len Gh Y H1 hk R1 x1 wk => ?_
  have hp1 := hp.mono x1
  refine for_it wk.walk (fun i σ2 H2 => ∃ ρ2 f2, Rel G σ2 H2 ρ2 f2 ∧ loopM g n (ds.drop i) ρ2 = some r ∧ Ext (Bad G ρ1 f) H1 (Bad G ρ2 f2) H2) ⟨ρ1, f, R1, by simpa using hk, Ext.refl _ _⟩ (fun i σ2 H2 _ ⟨ρ2, f2, R2, _, x2⟩ => wk.keep _ _ x2) ?_ ?_
  · rintro i x σ2 H2 H3 hi ⟨ρ2, f2, R2, hl, x2⟩ y
    have hlt : i < ds.length := by rw [wk.len]; exact hi
    rw [List.drop_eq_getElem_cons hlt] at hl
    obtain ⟨s3, hx⟩ := wk.item i ds[i] (Bad G ρ2 f2) H2 x H3 (List.getElem?_eq_getElem hlt) x2 (fun p h => R2.free h) y
    have R3 := R2.same s3
    simp only [loopM] at hl
    cases eg : g ds[i] ρ2 with
    | none => rw [eg] at hl; cases hl
    | some ρ3 =>
      rw [eg] at hl
      refine ⟨ρ2, f2, ds[i], ρ3, R3, hx, eg, fun σ4 f4 R4 x4 => ?_⟩
      dsimp only at hl
      unfold S.turn at hl
      have x5 := (x2.trans (Ext.same s3)).trans x4
      cases eb : n ρ3 with
      | none => rw [eb] at hl; cases hl
      | some q =>
        rw [eb] at hl
        refine ⟨ρ3, f4, q, R4, eb, ?_⟩
        cases q with
        | nx ρ5 => exact fun σ5 H5 f5 R5 x6 => ⟨ρ5, f5, R5, hl, x5.trans x6⟩
        | ct ρ5 => exact fun σ5 H5 f5 R5 x6 => ⟨ρ5, f5, R5, hl, x5.trans x6⟩
        | brk ρ5 => cases hl; exact fun σ5 H5 f5 R5 x6 => hp1 σ5 H5 f5 R5 (x5.trans x6)
        | ret d ρ5 => cases hl; exact hp1
        | retF d ρ5 => cases hl; exact hp1
        | exc c ρ5 => cases hl; exact hp1
  · rintro σ2 H2 ⟨ρ2, f2, R2, hl, x2⟩
    rw [← wk.len, List.drop_length] at hl
    cases hl
    exact hp1 σ2 H2 f2 R2 x2

/-! ### while -/
def whileM (mt : M Bool) (body : SS) : Nat → SS
  | 0 => fun _ => none
  | k + 1 => S.of mt fun t => if t = true then S.turn body (whileM mt body k) else S.nx
open Classical in
noncomputable def S.whl (mt : M Bool) (body : SS) : SS := fun ρ => if h : ∃ k r, whileM mt body k ρ = some r then whileM mt body h.choose ρ else none
theorem whileM_mono {body : SS} : ∀ {k j : Nat} {ρ : Rho} {r : SR}, whileM mt body k ρ = some r → k ≤ j → whileM mt body j ρ = some r
  | 0, _, _, _, h, _ => by cases h
  | k + 1, 0, _, _, _, h => by cases h
  | k + 1, j + 1, ρ, r, h, hj => by
    rcases of_inv h with ⟨c, ρ', e1, e2⟩ | ⟨t, ρ', e1, e2⟩
    · show S.of mt _ ρ = some r
      unfold S.of
      rw [e1]
      exact congrArg some e2.symm
    · show S.of mt _ ρ = some r
      unfold S.of
      rw [e1]
      dsimp only at e2 ⊢
      cases t with
      | false => exact e2
      | true =>
        rw [if_pos rfl] at e2 ⊢
        unfold S.turn at e2 ⊢
        cases eb : body ρ' with
        | none => rw [eb] at e2; cases e2
        | some q =>
          rw [eb] at e2
          cases q with
          | nx ρ2 => exact whileM_mono e2 (Nat.le_of_succ_le_succ hj)
          | ct ρ2 => exact whileM_mono e2 (Nat.le_of_succ_le_succ hj)
          | brk ρ2 => exact e2
          | ret d ρ2 => exact e2
          | retF d ρ2 => exact e2
          | exc c ρ2 => exact e2
theorem whl_eq {body : SS} {k : Nat} {ρ : Rho} {r : SR} (h : whileM mt body k ρ = some r) : S.whl mt body ρ = some r := by
  unfold S.whl
  have hh : ∃ k r, whileM mt body k ρ = some r := ⟨k, r, h⟩
  rw [dif_pos hh]
  obtain ⟨r', e⟩ := hh.choose_spec
  have h1 := whileM_mono (j := max k hh.choose) h (Nat.le_max_left _ _)
  have h2 := whileM_mono (j := max k hh.choose) e (Nat.le_max_right _ _)
  rw [h1] at h2
  rw [e, h2]
theorem whl_inv {body : SS} {ρ : Rho} {r : SR} (h : S.whl mt body ρ = some r) : ∃ k, whileM mt body k ρ = some r := by
  unfold S.whl at h
  split at h
  · exact ⟨_, h⟩
  · cases h
theorem ds_while {body : List Stmt} (hp : PassesOwn (model X.prog X.w) X.A X.env X.xe) (ht : DT X G W c mt) (hb : DSs X G W body n) : DS X G W (.While c body [] pos) (S.whl mt n) := by
  refine impS (ps_while hp ht hb) ?_
  rintro E σ H ⟨ρ, f, r, R, hm, hp⟩
  obtain ⟨k0, e0⟩ := whl_inv hm
  refine ⟨fun k σ2 H2 => ∃ ρ2 f2, Rel G σ2 H2 ρ2 f2 ∧ whileM mt n k ρ2 = some r ∧ Ext (Bad G ρ f) H (Bad G ρ2 f2) H2, ⟨k0, ρ, f, R, e0, Ext.refl _ _⟩, ?_⟩
  rintro k σ2 H2 ⟨ρ2, f2, R2, hk, x2⟩
  have hp2 := hp.mono x2
  cases k with
  | zero => cases hk
  | succ k =>
    refine tT_of R2 hk hp2 fun t ρ3 H3 hk3 R3 x3 => ?_
    have hp3 := hp2.mono x3
    cases t with
    | false =>
      rw [if_neg Bool.false_ne_true] at hk3 ⊢
      cases hk3
      exact hp2 σ2 H3 f2 R3 x3
    | true =>
      rw [if_pos rfl] at hk3 ⊢
      refine ⟨fun σ4 H4 => ∃ ρ4 f4, Rel G σ4 H4 ρ4 f4 ∧ whileM mt n k ρ4 = some r ∧ Ext (Bad G ρ f) H (Bad G ρ4 f4) H4, fun σ' H' h => ⟨k, Nat.lt_succ_self k, h⟩, ?_⟩
      unfold S.turn at hk3
      cases eb : n ρ3 with
      | none => rw [eb] at hk3; cases hk3
      | some q =>
        rw [eb] at hk3
        refine ⟨ρ3, f2, q, R3, eb, ?_⟩
        cases q with
        | nx ρ5 => exact fun σ5 H5 f5 R5 x6 => ⟨ρ5, f5, R5, hk3, (x2.trans x3).trans x6⟩
        | ct ρ5 => exact fun σ5 H5 f5 R5 x6 => ⟨ρ5, f5, R5, hk3, (x2.trans x3).trans x6⟩
        | brk ρ5 => cases hk3; exact fun σ5 H5 f5 R5 x6 => hp3 σ5 H5 f5 R5 x6
        | ret d ρ5 => cases hk3; exact hp3
        | retF d ρ5 => cases hk3; exact hp3
        | exc c ρ5 => cases hk3; exact hp3

/-! ### slots that are forgotten -/
def forget (ρ : Rho) : List Nat → Rho
  | [] => ρ
  | i :: r => if isInn ρ i = true then forget ρ r else forget (ρ.set i none) r
theorem Rel.forget1 {σ : L2.St} {H : Hp} {ρ : Rho} {f : Nat → Addr} {i : Nat} (R : Rel G σ H ρ f) (hi : isInn ρ i = false) : Rel G σ H (ρ.set i none) f ∧ Ext (Bad G ρ f) H (Bad G (ρ.set i none) f) H := by
  by_cases hl : i < σ.length
  · obtain ⟨R', x⟩ := R.put (i := i) (s := none) (w := σ[i]) hi (fun t e => nomatch e)
    rw [List.set_getElem_self] at R'
    exact ⟨R', x⟩
  · have : ρ.set i none = ρ := List.set_eq_of_length_le (by rw [← R.len]; omega)
    rw [this]
    exact ⟨R, Ext.refl _ _⟩
theorem Rel.forget {σ : L2.St} {H : Hp} {f : Nat → Addr} : ∀ (l : List Nat) {ρ : Rho} (R : Rel G σ H ρ f), Rel G σ H (DL.forget ρ l) f ∧ Ext (Bad G ρ f) H (Bad G (DL.forget ρ l) f) H
  | [], ρ, R => ⟨R, Ext.refl _ _⟩
  | i :: r, ρ, R => by
    unfold DL.forget
    split
    · exact Rel.forget r R
    · rename_i hi
      obtain ⟨R1, x1⟩ := R.forget1 (i := i) (by simpa using hi)
      obtain ⟨R2, x2⟩ := Rel.forget r R1
      exact ⟨R2, x1.trans x2⟩
def S.fgt (l : List Nat) : SS := fun ρ => some (.nx (forget ρ l))
theorem fgt_post {l : List Nat} {E : Ends} {σ : L2.St} {H : Hp} (h : tS G W (S.seq n (S.fgt l)) E σ H) : tS G W n E σ H := by
  obtain ⟨ρ, f, r, R, hm, hp⟩ := h
  unfold S.seq at hm
  cases e : n ρ with
  | none => rw [e] at hm; cases hm
  | some q =>
    rw [e] at hm
    refine ⟨ρ, f, q, R, e, ?_⟩
    cases q with
    | nx ρ1 =>
      cases hm
      intro σ' H' f' R' x'
      obtain ⟨R2, x2⟩ := R'.forget l
      exact hp σ' H' f' R2 (x'.trans x2)
    | ret d ρ1 => cases hm; exact hp
    | retF d ρ1 => cases hm; exact hp
    | brk ρ1 => cases hm; exact hp
    | ct ρ1 => cases hm; exact hp
    | exc c ρ1 => cases hm; exact hp
theorem ds_fgt (l : List Nat) (h : DS X G W st n) : DS X G W st (S.seq n (S.fgt l)) := impS h fun E σ H => fgt_post
theorem dss_fgt (l : List Nat) (h : DSs X G W sts n) : DSs X G W sts (S.seq n (S.fgt l)) := impSs h fun E σ H => fgt_post
theorem dss_pre (l : List Nat) (h : DSs X G W sts n) : DSs X G W sts (S.seq (S.fgt l) n) := impSs h fun E σ H ⟨ρ, f, r, R, hm, hp⟩ => by
  obtain ⟨R2, x2⟩ := R.forget l
  exact ⟨DL.forget ρ l, f, r, R2, hm, hp.mono x2⟩
end
end DL
namespace DL
open PySem PySem.Spec PyProof.Rows L2

/-! ### a def by its body -/
def avSl : Av → Option Sl
  | .dat d => some (.dat d)
  | .ref c => some (.mut false c)
def rho0 (N : Nat) (as : List Av) : Rho := as.map avSl ++ List.replicate (N - as.length) none
def outsOf : List Av → Rho → Option (List Cell)
  | [], _ => some []
  | .dat _ :: as, _ :: ρ => outsOf as ρ
  | .ref _ :: as, some (.mut false c) :: ρ => (outsOf as ρ).map (c :: ·)
  | _, _ => none
/-- the def whose body is m, of n parameters and N names -/
def runF (n N : Nat) (m : SS) : Fn := fun as => if as.length = n ∧ n ≤ N then match m (rho0 N as) with
  | some (.nx ρ') => (outsOf as ρ').map fun o => .ret .none o
  | some (.ret d ρ') => (outsOf as ρ').map fun o => .ret d o
  | some (.retF c ρ') => (outsOf as ρ').map fun o => .retF c o
  | some (.exc c ρ') => (outsOf as ρ').map fun o => .exc c o
  | _ => none else none

/-- the addresses of the objects handed in, by place -/
def innsOf : List Av → List Addr → Nat → List (Nat × Addr)
  | .dat _ :: as, ps, i => innsOf as ps (i + 1)
  | .ref _ :: as, p :: ps, i => (i, p) :: innsOf as ps (i + 1)
  | _, _, _ => []
def addrOf (l : List (Nat × Addr)) (i : Nat) : Addr := match l.find? fun p => p.1 == i with
  | some p => p.2
  | none => 0
theorem inns_ge {as : List Av} : ∀ {ps : List Addr} {i : Nat} {p : Nat × Addr}, p ∈ innsOf as ps i → i ≤ p.1 := by
  induction as with
  | nil => intro ps i p h; simp [innsOf] at h
  | cons a as ih =>
    intro ps i p h
    cases a with
    | dat d => exact Nat.le_of_succ_le (ih (by simpa [innsOf] using h))
    | ref c =>
      cases ps with
      | nil => simp [innsOf] at h
      | cons q ps =>
        rcases List.mem_cons.mp (show p ∈ (i, q) :: innsOf as ps (i + 1) from h) with e | h
        · rw [e]; exact Nat.le_refl _
        · exact Nat.le_of_succ_le (ih h)
theorem addr_of {as : List Av} : ∀ {ps : List Addr} {i : Nat} {p : Nat × Addr}, p ∈ innsOf as ps i → addrOf (innsOf as ps i) p.1 = p.2 := by
  induction as with
  | nil => intro ps i p h; simp [innsOf] at h
  | cons a as ih =>
    intro ps i p h
    cases a with
    | dat d => exact ih (by simpa [innsOf] using h)
    | ref c =>
      cases ps with
      | nil => simp [innsOf] at h
      | cons q ps =>
        rcases List.mem_cons.mp (show p ∈ (i, q) :: innsOf as ps (i + 1) from h) with e | h
        · subst e
          simp [innsOf, addrOf]
        · have hge := inns_ge h
          have hne : (i == p.1) = false := beq_eq_false_iff_ne.mpr (by omega)
          have := ih h
          unfold addrOf at this ⊢
          rw [show innsOf (.ref c :: as) (q :: ps) i = (i, q) :: innsOf as ps (i + 1) from rfl, List.find?_cons, hne]
          exact this
theorem AvL.len {K : PySem.W.Frag} {A : Addr → Prop} {H : Hp} : ∀ {vs : List V} {as : List Av} {ps : List Addr}, AvL K A H vs as ps → vs.length = as.length
  | _, _, _, .nil => rfl
  | _, _, _, .dat _ r => congrArg (· + 1) (AvL.len r)
  | _, _, _, .ref _ _ _ r => congrArg (· + 1) (AvL.len r)
/-- what a place holds at the entry -/
theorem AvL.at {K : PySem.W.Frag} {A : Addr → Prop} {H : Hp} : ∀ {vs : List V} {as : List Av} {ps : List Addr} {j : Nat}, AvL K A H vs as ps → ∀ {i : Nat} {s : Sl}, (as.map avSl)[i]? = some (some s) →
    ∃ v, vs[i]? = some v ∧ ((∃ d, s = .dat d ∧ Has K A H v d) ∨ ∃ p c, s = .mut false c ∧ v = .ref p ∧ (j + i, p) ∈ innsOf as ps j ∧ A p ∧ CellOk K A H p c ∧ p ∈ ps)
  | _, _, _, _, .nil, i, s, e => by simp at e
  | _, _, _, j, .dat h r, 0, s, e => by
    simp [avSl] at e
    subst e
    exact ⟨_, rfl, .inl ⟨_, rfl, h⟩⟩
  | _, _, _, j, .dat h r, i + 1, s, e => by
    obtain ⟨v, e1, h1⟩ := AvL.at (j := j + 1) r (i := i) (s := s) (by simpa using e)
    refine ⟨v, by simpa using e1, ?_⟩
    rcases h1 with h1 | ⟨p, c, h2, h3, h4, h5⟩
    · exact .inl h1
    · exact .inr ⟨p, c, h2, h3, by rw [show j + (i + 1) = j + 1 + i by omega]; exact h4, h5⟩
  | _, _, _, j, .ref h1 h2 h3 r, 0, s, e => by
    simp [avSl] at e
    subst e
    exact ⟨_, rfl, .inr ⟨_, _, rfl, rfl, List.mem_cons_self, h1, h2, List.mem_cons_self⟩⟩
  | _, _, _, j, .ref h1 h2 h3 r, i + 1, s, e => by
    obtain ⟨v, e1, h1⟩ := AvL.at (j := j + 1) r (i := i) (s := s) (by simpa using e)
    refine ⟨v, by simpa using e1, ?_⟩
    rcases h1 with h1 | ⟨p, c, h2, h3, h4, h5, h6, h7⟩
    · exact .inl h1
    · exact .inr ⟨p, c, h2, h3, List.mem_cons_of_mem _ (by rw [show j + (i + 1) = j + 1 + i by omega]; exact h4), h5, h6, List.mem_cons_of_mem _ h7⟩
theorem AvL.inns {K : PySem.W.Frag} {A : Addr → Prop} {H : Hp} : ∀ {vs : List V} {as : List Av} {ps : List Addr} {j : Nat}, AvL K A H vs as ps → ∀ {p : Nat × Addr}, p ∈ innsOf as ps j → ∃ i c, p.1 = j + i ∧ (as.map avSl)[i]? = some (some (.mut false c)) ∧ p.2 ∈ ps
  | _, _, _, _, .nil, p, h => by simp [innsOf] at h
  | _, _, _, j, .dat _ r, p, h => by
    obtain ⟨i, c, e1, e2, e3⟩ := AvL.inns (j := j + 1) r h
    exact ⟨i + 1, c, by omega, by simpa using e2, e3⟩
  | _, _, _, j, .ref (c := c) h1 h2 h3 r, p, h => by
    rcases List.mem_cons.mp (show p ∈ (j, _) :: innsOf _ _ (j + 1) from h) with e | h
    · subst e
      exact ⟨0, c, rfl, rfl, List.mem_cons_self⟩
    · obtain ⟨i, c, e1, e2, e3⟩ := AvL.inns (j := j + 1) r h
      exact ⟨i + 1, c, by omega, by simpa using e2, List.mem_cons_of_mem _ e3⟩
theorem AvL.inj {K : PySem.W.Frag} {A : Addr → Prop} {H : Hp} : ∀ {vs : List V} {as : List Av} {ps : List Addr} {j : Nat}, AvL K A H vs as ps → ∀ {p q : Nat × Addr}, p ∈ innsOf as ps j → q ∈ innsOf as ps j → p.2 = q.2 → p.1 = q.1
  | _, _, _, _, .nil, p, q, h, _, _ => by simp [innsOf] at h
  | _, _, _, j, .dat _ r, p, q, h, h', e => AvL.inj (j := j + 1) r h h' e
  | _, _, _, j, .ref h1 h2 h3 r, p, q, h, h', e => by
    rcases List.mem_cons.mp (show p ∈ (j, _) :: innsOf _ _ (j + 1) from h) with e1 | g1
    · rcases List.mem_cons.mp (show q ∈ (j, _) :: innsOf _ _ (j + 1) from h') with e2 | g2
      · rw [e1, e2]
      · obtain ⟨i, c, _, _, e3⟩ := AvL.inns (j := j + 1) r g2
        rw [← e, e1] at e3
        exact absurd e3 h3
    · rcases List.mem_cons.mp (show q ∈ (j, _) :: innsOf _ _ (j + 1) from h') with e2 | g2
      · obtain ⟨i, c, _, _, e3⟩ := AvL.inns (j := j + 1) r g1
        rw [e, e2] at e3
        exact absurd e3 h3
      · exact AvL.inj (j := j + 1) r g1 g2 e
theorem AvL.ps {K : PySem.W.Frag} {A : Addr → Prop} {H : Hp} : ∀ {vs : List V} {as : List Av} {ps : List Addr} {j : Nat}, AvL K A H vs as ps → ∀ {p : Addr}, p ∈ ps → ∃ i, (i, p) ∈ innsOf as ps j
  | _, _, _, _, .nil, p, h => by simp at h
  | _, _, _, j, .dat _ r, p, h => AvL.ps (j := j + 1) r h
  | _, _, _, j, .ref h1 h2 h3 r, p, h => by
    rcases List.mem_cons.mp h with e | h
    · subst e
      exact ⟨j, List.mem_cons_self⟩
    · obtain ⟨i, h⟩ := AvL.ps (j := j + 1) r h
      exact ⟨i, List.mem_cons_of_mem _ h⟩
def gcOf (K : PySem.W.Frag) (mg : Str → Option Value) (T : Addr → Prop) (A : Addr → Prop) (H : Hp) (as : List Av) (ps : List Addr) (q : Addr → Str → Prop) : Gc := ⟨K, mg, A, H, innsOf as ps 0, q, T⟩
theorem rho0_get {N : Nat} {as : List Av} {i : Nat} {s : Sl} (h : (rho0 N as)[i]? = some (some s)) : (as.map avSl)[i]? = some (some s) := by
  unfold rho0 at h
  by_cases hi : i < (as.map avSl).length
  · rw [List.getElem?_append_left hi] at h
    exact h
  · rw [List.getElem?_append_right (by omega), List.getElem?_replicate] at h
    split at h <;> cases h
/-- the entry -/
theorem rel_start {K : PySem.W.Frag} {mg : Str → Option Value} {A : Addr → Prop} {H : Hp} {vs : List V} {as : List Av} {ps : List Addr} {N : List Str} {q : Addr → Str → Prop} (h : AvL K A H vs as ps) {T : Addr → Prop} (hA : (∀ a, A a → ∃ o, H a = some o) ∧ ∀ a, T a → A a ∧ TabAt H a) (hl : as.length ≤ N.length) :
    Rel (gcOf K mg T A H as ps q) (L2.start N vs) H (rho0 N.length as) (addrOf (innsOf as ps 0)) := by
  have nown : ∀ (i : Nat) (c : Cell), (rho0 N.length as)[i]? = some (some (.mut true c)) → False := fun i c e => by
    obtain ⟨v, _, h1⟩ := h.at (j := 0) (rho0_get e)
    rcases h1 with ⟨d, h1, _⟩ | ⟨p, c', h1, _⟩ <;> cases h1
  have bd : ∀ a, Bad (gcOf K mg T A H as ps q) (rho0 N.length as) (addrOf (innsOf as ps 0)) a → A a := fun a z => by
    rcases z with z | ⟨i, c, e, _⟩
    · exact z
    · exact (nown i c e).elim
  have x : Ext A H (Bad (gcOf K mg T A H as ps q) (rho0 N.length as) (addrOf (innsOf as ps 0))) H := fun a o hb e => ⟨fun z => hb (bd a z), e⟩
  have atM : ∀ (i : Nat) (b : Bool) (c : Cell), (rho0 N.length as)[i]? = some (some (.mut b c)) → (i, addrOf (innsOf as ps 0) i) ∈ innsOf as ps 0 ∧ A (addrOf (innsOf as ps 0) i) ∧ CellOk K A H (addrOf (innsOf as ps 0) i) c ∧ vs[i]? = some (.ref (addrOf (innsOf as ps 0) i)) := fun i b c e => by
    obtain ⟨v, e1, h1⟩ := h.at (j := 0) (rho0_get e)
    rcases h1 with ⟨d, h1, _⟩ | ⟨p, c', h1, h2, h3, h4, h5, _⟩
    · cases h1
    · cases h1
      rw [Nat.zero_add] at h3
      have := addr_of h3
      dsimp only at this
      rw [this]
      rw [h2] at e1
      exact ⟨h3, h4, h5, e1⟩
  have stt : ∀ (i : Nat) (v : V), vs[i]? = some v → (L2.start N vs)[i]? = some (some v) := fun i v e => by
    have hi := (List.getElem?_eq_some_iff.mp e).1
    unfold L2.start
    rw [List.getElem?_append_left (by simpa using hi), List.getElem?_map, e]
    rfl
  refine ⟨?_, fun a o e _ _ => e, hA, fun i c e => (nown i c e).elim, fun i j b c b' c' e1 e2 z => ?_, fun i c e => ⟨(atM i _ c e).1, (atM i _ c e).2.1⟩, fun p hp => ?_, fun i s e => ?_⟩
  · unfold L2.start rho0
    have := h.len
    simp only [List.length_append, List.length_map, List.length_replicate]
    omega
  · exact h.inj (j := 0) (atM i b c e1).1 (atM j b' c' e2).1 z
  · obtain ⟨i, c, e1, e2, _⟩ := h.inns (j := 0) hp
    rw [Nat.zero_add] at e1
    refine ⟨c, ?_, addr_of hp⟩
    unfold rho0
    rw [e1, List.getElem?_append_left (List.getElem?_eq_some_iff.mp e2).1]
    exact e2
  · obtain ⟨v, e1, h1⟩ := h.at (j := 0) (rho0_get e)
    rcases h1 with ⟨d, rfl, h2⟩ | ⟨p, c, rfl, _⟩
    · exact ⟨v, stt i v e1, Has.ext x h2⟩
    · obtain ⟨_, _, h3, h4⟩ := atM i _ c e
      exact ⟨_, stt i _ h4, rfl, h3.ext x rfl⟩
theorem outs_ok {K : PySem.W.Frag} {A B : Addr → Prop} {H H' : Hp} : ∀ {vs : List V} {as : List Av} {ps : List Addr} {j : Nat} {ρ : Rho} {outs : List Cell}, AvL K A H vs as ps → outsOf as ρ = some outs →
    (∀ i p, (j + i, p) ∈ innsOf as ps j → ∀ c, ρ[i]? = some (some (.mut false c)) → CellOk K B H' p c) → Outs K B H' ps outs
  | _, _, _, _, _, _, .nil, e, _ => by cases e; exact .nil
  | _, _, _, j, [], _, .dat _ r, e, h => by cases e
  | _, _, _, j, _ :: ρ, _, .dat _ r, e, h => outs_ok (j := j + 1) r (show outsOf _ ρ = _ from e) fun i p hp c hc => h (i + 1) p (by rw [show j + (i + 1) = j + 1 + i by omega]; exact hp) c (by simpa using hc)
  | _, _, _, j, [], _, .ref _ _ _ r, e, h => by cases e
  | _, _, _, j, none :: ρ, _, .ref _ _ _ r, e, h => by cases e
  | _, _, _, j, some (.dat _) :: ρ, _, .ref _ _ _ r, e, h => by cases e
  | _, _, _, j, some (.exc _) :: ρ, _, .ref _ _ _ r, e, h => by cases e
  | _, _, _, j, some (.mut true _) :: ρ, _, .ref _ _ _ r, e, h => by cases e
  | _, _, _, j, some (.mut false c) :: ρ, _, .ref _ _ _ r, e, h => by
    simp only [outsOf] at e
    cases e2 : outsOf _ ρ with
    | none => rw [e2] at e; cases e
    | some os =>
      rw [e2] at e
      cases e
      refine .cons (h 0 _ List.mem_cons_self c rfl) (outs_ok (j := j + 1) r e2 fun i p hp c hc => h (i + 1) p (List.mem_cons_of_mem _ (by rw [show j + (i + 1) = j + 1 + i by omega]; exact hp)) c (by simpa using hc))

section
variable {P : Program} {w : World} {K : PySem.W.Frag} {mg : Str → Option Value} {base : Heap} {T : Addr → Prop}
theorem spF_len {n N : Nat} {m : SS} : ∀ vs H Q E, spF K mg T (runF n N m) vs H Q E → vs.length = n := fun vs H Q E ⟨A, as, ps, r, h, _, e, _⟩ => by
  rw [h.len]
  unfold runF at e
  split at e
  · rename_i hh; exact hh.1
  · cases e
/-- from the promise to the body -/
theorem body_imp {N : List Str} {ps0 : Nat} {m : SS} {vs : List V} {H : Hp} {Q : VK} {E : XK} (h : spF K mg T (runF ps0 N.length m) vs H Q E) :
    ∃ gA gH gi gq, tS ⟨K, mg, gA, gH, gi, gq, T⟩ (fun cls d _ H => E cls d H) m { nx := fun _ H' => Q .non H', rt := Q } (L2.start N vs) H := by
  obtain ⟨A, as, ps, r, hv, hA, eF, hr⟩ := h
  unfold runF at eF
  split at eF
  · rename_i hl
    have R := rel_start (mg := mg) (N := N) (q := fun _ _ => False) hv hA (by rw [hl.1]; exact hl.2)
    refine ⟨A, H, innsOf as ps 0, fun _ _ => False, ?_⟩
    show tS (gcOf K mg T A H as ps fun _ _ => False) _ _ _ _ _
    have keep : ∀ {σ' : L2.St} {H' : Hp} {ρ' : Rho} {f' : Nat → Addr}, Rel (gcOf K mg T A H as ps fun _ _ => False) σ' H' ρ' f' → Keep T ps H H' := fun {σ' H' ρ' f'} R' => ⟨fun a o e hn ht => R'.keep a o e (fun p hp z => by
      obtain ⟨_, _, _, _, h3⟩ := hv.inns (j := 0) hp
      rw [z] at h3
      exact hn h3) ht, fun a ht => (R'.dom.2 a ht).2⟩
    have outs : ∀ {B : Addr → Prop} {σ' : L2.St} {H' : Hp} {ρ' : Rho} {f' : Nat → Addr} {o : List Cell}, Rel (gcOf K mg T A H as ps fun _ _ => False) σ' H' ρ' f' → (∀ p c, CellOk K (Bad (gcOf K mg T A H as ps fun _ _ => False) ρ' f') H' p c → CellOk K B H' p c) → outsOf as ρ' = some o → Outs K B H' ps o := fun {B σ' H' ρ' f' o} R' hB e => by
      refine outs_ok (j := 0) hv e fun i p hp c hc => ?_
      rw [Nat.zero_add] at hp
      obtain ⟨c', e1, e2⟩ := R'.innB (i, p) hp
      dsimp only at e1 e2
      rw [hc] at e1
      cases e1
      have := (R'.mutAt hc).2
      rw [e2] at this
      exact hB p c this
    cases em : m (rho0 N.length as) with
    | none => rw [em] at eF; cases eF
    | some q =>
      rw [em] at eF
      refine ⟨_, _, q, R, em, ?_⟩
      have weak : ∀ {ρ' : Rho} {f' : Nat → Addr} {H' : Hp} {p : Addr} {c : Cell}, CellOk K (Bad (gcOf K mg T A H as ps fun _ _ => False) ρ' f') H' p c → CellOk K A H' p c := fun {ρ' f' H' p c} h => h.ext (fun a o hb e => ⟨fun z => hb (.inl z), e⟩) rfl
      have weakD : ∀ {ρ' : Rho} {f' : Nat → Addr} {H' : Hp} {v : V} {d : D}, Has K (Bad (gcOf K mg T A H as ps fun _ _ => False) ρ' f') H' v d → Has K A H' v d := fun {ρ' f' H' p c} h => h.ext fun a o hb e => ⟨fun z => hb (.inl z), e⟩
      cases q with
      | nx ρ' =>
        obtain ⟨o, eo, er⟩ := Option.map_eq_some_iff.mp eF
        subst er
        exact fun σ' H' f' R' x => hr .non H' (keep R') (outs R' (fun _ _ => weak) eo) .non
      | ret d ρ' =>
        obtain ⟨o, eo, er⟩ := Option.map_eq_some_iff.mp eF
        subst er
        exact fun v σ' H' f' R' hh => hr v H' (keep R') (outs R' (fun _ _ => weak) eo) (weakD hh)
      | retF c ρ' =>
        obtain ⟨o, eo, er⟩ := Option.map_eq_some_iff.mp eF
        subst er
        intro p σ' H' f' N'
        refine hr p H' (keep N'.rel) ?_ N'.fr.h0 (N'.ok.ext (fun a o hb e => ⟨fun z => hb (z.elim (fun z => .inl (.inl z)) .inr), e⟩) rfl)
        refine outs_ok (j := 0) hv eo fun i q hq c' hc => ?_
        rw [Nat.zero_add] at hq
        obtain ⟨c2, e1, e2⟩ := N'.rel.innB (i, q) hq
        dsimp only at e1 e2
        rw [hc] at e1
        cases e1
        have := (N'.relP.mutAt hc).2
        rw [e2] at this
        exact this.ext (fun a o hb e => ⟨fun z => hb (z.elim (fun z => bad_plus.mpr (.inl (.inl z))) (fun z => bad_plus.mpr (.inr z))), e⟩) rfl
      | exc c ρ' =>
        obtain ⟨o, eo, er⟩ := Option.map_eq_some_iff.mp eF
        subst er
        exact fun cls dd σ' H' f' hc R' => hr cls dd H' hc (keep R') (outs R' (fun _ _ => weak) eo)
      | brk ρ' => cases eF
      | ct ρ' => cases eF
  · cases eF
/-- THE RULE for a def that may raise -/
theorem fn_body {x qual : Str} {st : Stmt} {f : Addr} {fd : FuncData} {N ps : List Str} {k : Nat} {m : SS} (F : L2.Fun K x qual st f fd) (S : FnScope N ps (defScope st))
    (hbody : ∀ (cdv : Value) (A : Around) (outer : List Env) (s : Shared) (H : Hp) (E : XK) (gA : Addr → Prop) (gH : Hp) (gi : List (Nat × Addr)) (gq : Addr → Str → Prop), Room k (A.deeper (envOfC qual (defScope st) s.heap.objs.size f cdv)) →
      DSs (cxOf (L2.CX P w) P w K mg base N qual (defScope st) f cdv A outer s H E) ⟨K, mg, gA, gH, gi, gq, T⟩ (fun cls d _ H => E cls d H) (defBody st) m) : FnOk P w K mg base (L2.CX P w) (k + 1) f fd ps (spF K mg T (runF ps.length N.length m)) := by
  refine F.okX S spF_len fun cdv A outer s H vs Q E hr h => ?_
  obtain ⟨gA, gH, gi, gq, ht⟩ := body_imp h
  exact ⟨_, hbody cdv A outer s H E gA gH gi gq hr, ht⟩
/-- .. for one that lets nothing out -/
theorem fn_body0 {x qual : Str} {st : Stmt} {f : Addr} {fd : FuncData} {N ps : List Str} {k : Nat} {m : SS} (F : L2.Fun K x qual st f fd) (S : FnScope N ps (defScope st))
    (hbody : ∀ (cdv : Value) (A : Around) (outer : List Env) (s : Shared) (H : Hp) (E : XK) (gA : Addr → Prop) (gH : Hp) (gi : List (Nat × Addr)) (gq : Addr → Str → Prop), Room k (A.deeper (envOfC qual (defScope st) s.heap.objs.size f cdv)) →
      DSs (cxOf CX0 P w K mg base N qual (defScope st) f cdv A outer s H E).nox ⟨K, mg, gA, gH, gi, gq, T⟩ (fun _ _ _ _ => False) (defBody st) m) (sp : Sp)
    (hsp : ∀ vs H Q E, sp vs H Q E → spF K mg T (runF ps.length N.length m) vs H Q E0) : FnOk P w K mg base CX0 (k + 1) f fd ps sp := by
  refine F.ok S (fun vs H Q E h => spF_len _ _ _ _ (hsp vs H Q E h)) fun cdv A outer s H vs Q E hr h => ?_
  obtain ⟨gA, gH, gi, gq, ht⟩ := body_imp (hsp vs H Q E h)
  exact ⟨_, hbody cdv A outer s H E gA gH gi gq hr, ht⟩
/-- .. one that holds generator expressions: its code stands at c -/
theorem fn_bodyG {x qual : Str} {st : Stmt} {f c : Addr} {fd : FuncData} {N ps : List Str} {k : Nat} {m : SS} (F : L2.Fun K x qual st f fd) (S : FnScope N ps (defScope st)) (hc : fd.code = .ref c)
    (hbody : ∀ (A : Around) (outer : List Env) (s : Shared) (H : Hp) (E : XK) (gA : Addr → Prop) (gH : Hp) (gi : List (Nat × Addr)) (gq : Addr → Str → Prop), Room k (A.deeper (envOfC qual (defScope st) s.heap.objs.size f (.ref c))) →
      DSs (cxOf (L2.CX P w) P w K mg base N qual (defScope st) f (.ref c) A outer s H E) ⟨K, mg, gA, gH, gi, gq, T⟩ (fun cls d _ H => E cls d H) (defBody st) m) : FnOk P w K mg base (L2.CX P w) (k + 1) f fd ps (spF K mg T (runF ps.length N.length m)) := by
  obtain ⟨oc, od, kV, doc, pm, an, cdv, ct, osl, rfl, lk, hcd⟩ := F.ex
  have e : cdv = .ref c := hc
  subst e
  exact fn_of lk hcd S spF_len fun A outer s H vs Q E hr hsp => by
    obtain ⟨gA, gH, gi, gq, ht⟩ := body_imp hsp
    exact ⟨_, hbody A outer s H E gA gH gi gq hr, ht⟩
end
end DL
namespace DL
open PySem PySem.Spec PyProof.Rows L2

/-! ### builtins of one argument -/
def rB1 (K : PySem.W.Frag) (g : D → Option D) : List V → Hp → VK → Prop := fun xs H Q => ∃ (B : Addr → Prop) (x : V) (d z : D), (∀ p, H p = none → ¬ B p) ∧ xs = [x] ∧ HasK K B H x d ∧ g d = some z ∧ ∀ v H', Same H H' → Has K B H' v z → Q v H'
def rB1F (K : PySem.W.Frag) (g : D → Option Cell) : List V → Hp → VK → Prop := fun xs H Q => ∃ (B : Addr → Prop) (x : V) (d : D) (z : Cell), (∀ p, H p = none → ¬ B p) ∧ xs = [x] ∧ HasK K B H x d ∧ g d = some z ∧
  ∀ p H', Same H H' → H p = none → CellOk K (fun a => B a ∨ a = p) H' p z → Q (.ref p) H'
def rB2 (K : PySem.W.Frag) (g : D → D → Option D) : List V → Hp → VK → Prop := fun xs H Q => ∃ (B : Addr → Prop) (x y : V) (d e z : D), (∀ p, H p = none → ¬ B p) ∧ xs = [x, y] ∧ Has K B H x d ∧ HasK K B H y e ∧ g d e = some z ∧ ∀ v H', Same H H' → Has K B H' v z → Q v H'
section
variable {X : Cx} {G : Gc} {W : WX} {a b e : Expr} {es : List Expr} {m ma mb : M D} {pos p : Pos} {x : Str} {id T : String}
theorem b1_imp {g : D → Option D} (hk : X.K = G.K) : ∀ σ H Q, tD G W (M.un g m) σ H Q → tCB (rB1 X.K g) (tCons (tK G W m) tNil) σ H Q := by
  rintro σ H Q ⟨ρ, f, r, R, hm, hp⟩
  refine tK_bind R hm (xok hp) fun d ρ1 v H1 hk1 R1 x1 hv => ?_
  obtain ⟨z, e, er⟩ := lift_inv hk1
  subst er
  rw [hk]
  exact ⟨Bad G ρ1 f, v, d, z, fun p h => R1.free h, rfl, hv, e, fun w H' s hw => hp w H' (R1.same s) (x1.trans (Ext.same s)) hw⟩
theorem b1F_imp {g : D → Option Cell} (hk : X.K = G.K) : ∀ σ H Q, tF G W (M.unF g m) σ H Q → tCB (rB1F X.K g) (tCons (tK G W m) tNil) σ H Q := by
  rintro σ H Q ⟨ρ, f, r, R, hm, hp⟩
  refine tK_bind R hm (xok hp) fun d ρ1 v H1 hk1 R1 x1 hv => ?_
  obtain ⟨z, e, er⟩ := lift_inv hk1
  subst er
  rw [hk]
  exact ⟨Bad G ρ1 f, v, d, z, fun p h => R1.free h, rfl, hv, e, fun q H' s h0 ok => hp q H' (.mk' R1 h0 s ok) (x1.trans (Ext.fresh h0 s))⟩
theorem b2_imp {g : D → D → Option D} (hk : X.K = G.K) : ∀ σ H Q, tD G W (M.bin g ma mb) σ H Q → tCB (rB2 X.K g) (tCons (tD G W ma) (tCons (tK G W mb) tNil)) σ H Q := by
  rintro σ H Q ⟨ρ, f, r, R, hm, hp⟩
  refine tD_bind R hm (xok hp) fun d ρ1 v H1 hk1 R1 x1 hv => ?_
  refine tK_bind R1 hk1 (xok hp) fun e ρ2 u H2 hk2 R2 x2 hu => ?_
  obtain ⟨z, ez, er⟩ := lift_inv hk2
  subst er
  rw [hk]
  exact ⟨Bad G ρ2 f, v, u, d, e, z, fun p h => R2.free h, rfl, hv.ext x2, hu, ez, fun w H' s hw => hp w H' (R2.same s) ((x1.trans x2).trans (Ext.same s)) hw⟩
variable {g : D → Option D} {gF : D → Option Cell} {g2 : D → D → Option D}
theorem de_b1 (hc : CallR X (.builtin id) (rB1 X.K g)) (ha : DK X G W e m) (hg : Gl X x := by rfl) (hm : X.mg x = none) (hv : bootBuiltins x = some (.builtin id) := by rfl) (hn : x ≠ "__name__" := by decide) (hdb : (x == ("__debug__" : Str)) = false := by decide)
    (he : starEach [e] X.env = (false, eval e X.env) :: starEach [] X.env := by rfl) (hk : X.K = G.K := by rfl) : DE X G W (.Call (.Name x p) [e] [] pos) (M.un g m) :=
  imp (pe_callB hc hg hm hv (pa_cons ha pa_nil he) hn hdb he rfl) (b1_imp hk)
theorem df_b1 (hc : CallR X (.builtin id) (rB1F X.K gF)) (ha : DK X G W e m) (hg : Gl X x := by rfl) (hm : X.mg x = none) (hv : bootBuiltins x = some (.builtin id) := by rfl) (hn : x ≠ "__name__" := by decide) (hdb : (x == ("__debug__" : Str)) = false := by decide)
    (he : starEach [e] X.env = (false, eval e X.env) :: starEach [] X.env := by rfl) (hk : X.K = G.K := by rfl) : DF X G W (.Call (.Name x p) [e] [] pos) (M.unF gF m) :=
  imp (pe_callB hc hg hm hv (pa_cons ha pa_nil he) hn hdb he rfl) (b1F_imp hk)
theorem de_t1 (hc : CallR X (.type T) (rB1 X.K g)) (ha : DK X G W e m) (hg : Gl X x := by rfl) (hm : X.mg x = none) (hv : bootBuiltins x = some (.type T) := by rfl) (hn : x ≠ "__name__" := by decide) (hdb : (x == ("__debug__" : Str)) = false := by decide)
    (he : starEach [e] X.env = (false, eval e X.env) :: starEach [] X.env := by rfl) (hk : X.K = G.K := by rfl) : DE X G W (.Call (.Name x p) [e] [] pos) (M.un g m) :=
  imp (pe_callTy hc hg hm hv (pa_cons ha pa_nil he) hn hdb he rfl) (b1_imp hk)
theorem df_t1 (hc : CallR X (.type T) (rB1F X.K gF)) (ha : DK X G W e m) (hg : Gl X x := by rfl) (hm : X.mg x = none) (hv : bootBuiltins x = some (.type T) := by rfl) (hn : x ≠ "__name__" := by decide) (hdb : (x == ("__debug__" : Str)) = false := by decide)
    (he : starEach [e] X.env = (false, eval e X.env) :: starEach [] X.env := by rfl) (hk : X.K = G.K := by rfl) : DF X G W (.Call (.Name x p) [e] [] pos) (M.unF gF m) :=
  imp (pe_callTy hc hg hm hv (pa_cons ha pa_nil he) hn hdb he rfl) (b1F_imp hk)
theorem de_b2 (hc : CallR X (.builtin id) (rB2 X.K g2)) (ha : DE X G W a ma) (hb : DK X G W b mb) (hg : Gl X x := by rfl) (hm : X.mg x = none) (hv : bootBuiltins x = some (.builtin id) := by rfl) (hn : x ≠ "__name__" := by decide) (hdb : (x == ("__debug__" : Str)) = false := by decide)
    (hs1 : starEach [a, b] X.env = (false, eval a X.env) :: starEach [b] X.env := by rfl) (hs2 : starEach [b] X.env = (false, eval b X.env) :: starEach [] X.env := by rfl) (hpl : (backTo pos (starEach [b] X.env)).any (·.1) = false := by rfl) (hk : X.K = G.K := by rfl) : DE X G W (.Call (.Name x p) [a, b] [] pos) (M.bin g2 ma mb) :=
  imp (pe_callB hc hg hm hv (pa_cons ha (pa_cons hb pa_nil hs2) hs1) hn hdb hs1 hpl) (b2_imp hk)
end

/-! ### what they give -/
def absD : D → Option D
  | .int i => some (.int (if i < 0 then -i else i))
  | _ => none
def intOfD : D → Option D
  | .int i => some (.int i)
  | .bool b => some (.int (if b then 1 else 0))
  | _ => none
def lenD : D → Option D
  | .list xs => some (.int xs.length)
  | .tuple xs => some (.int xs.length)
  | .dict kvs => some (.int kvs.length)
  | .str y => if y.length ≤ 16777216 then some (.int y.length) else none
  | _ => none
def minI : D → D → Option D
  | .int i, .int j => some (.int (if j < i then j else i))
  | _, _ => none
def maxI : D → D → Option D
  | .int i, .int j => some (.int (if j > i then j else i))
  | _, _ => none
def alikeB (xs : List D) : Bool := xs.all fun x => okD 60 x && (match x with | .none => false | _ => true) && xs.all fun y => PySem.W.alike x y
def itemsOf : D → Option (List D)
  | .list xs => some xs
  | .tuple xs => some xs
  | _ => none
def minOf (d : D) : Option D := match itemsOf d with
  | some (x :: xs) => if alikeB (x :: xs) = true then some (PySem.W.minD x xs) else none
  | _ => none
def maxOf (d : D) : Option D := match itemsOf d with
  | some (x :: xs) => if alikeB (x :: xs) = true then some (PySem.W.maxD x xs) else none
  | _ => none
def isTupNE : D → Bool
  | .tuple (_ :: _) => true
  | _ => false
def isTupD : D → Bool
  | .tuple _ => true
  | _ => false
def sortB (xs : List D) : Bool := alikeB xs && (xs.all isTupNE || xs.all fun x => !isTupD x)
def sortF : D → Option Cell
  | .list xs => if sortB xs = true ∧ xs.length ≤ 16777216 then some (.lst (xs.mergeSort (PySem.W.dataLe false fun d => d))) else none
  | _ => none
def tupOf : D → Option D
  | .list xs => some (.tuple xs)
  | .tuple xs => some (.tuple xs)
  | _ => none
def lstOf : D → Option Cell
  | .list xs => some (.lst xs)
  | .tuple xs => some (.lst xs)
  | _ => none
def intsOf : List D → Option (List Int)
  | [] => some []
  | .int i :: r => match intsOf r with
    | some is => some (i :: is)
    | none => none
  | _ => none
def sumD : D → Option D
  | .list xs => match intsOf xs with
    | some is => some (.int is.sum)
    | none => none
  | .tuple xs => match intsOf xs with
    | some is => some (.int is.sum)
    | none => none
  | _ => none
theorem intsOf_eq : ∀ {xs : List D} {is : List Int}, intsOf xs = some is → xs = is.map PyData.int
  | [], is, h => by cases h; rfl
  | .int i :: r, is, h => by
    simp only [intsOf] at h
    cases e : intsOf r with
    | none => rw [e] at h; cases h
    | some js =>
      rw [e] at h
      cases h
      rw [List.map_cons, intsOf_eq e]
  | .none :: _, _, h => by cases h
  | .bool _ :: _, _, h => by cases h
  | .str _ :: _, _, h => by cases h
  | .list _ :: _, _, h => by cases h
  | .tuple _ :: _, _, h => by cases h
  | .dict _ :: _, _, h => by cases h
theorem intsOf_map : ∀ (is : List Int), intsOf (is.map PyData.int) = some is
  | [] => rfl
  | i :: r => by rw [List.map_cons, intsOf, intsOf_map r]
section
variable {K : PySem.W.Frag} {B : Addr → Prop} {H : Hp}
theorem HasL.int_inv : ∀ {vs : List V} {is : List Int}, HasL K B H vs (is.map PyData.int) → vs = is.map V.int
  | _, [], h => by cases h; rfl
  | _, i :: r, h => by
    cases h with
    | cons h1 h2 => rw [h1.int_inv, HasL.int_inv h2]; rfl
theorem alikeB_spec {xs : List D} (h : alikeB xs = true) : PySem.W.AlikeAll xs ∧ (∀ x ∈ xs, okD 60 x = true) := by
  simp only [alikeB, List.all_eq_true, Bool.and_eq_true] at h
  refine ⟨⟨fun x hx y hy => (h x hx).2 y hy, fun x hx e => ?_⟩, fun x hx => (h x hx).1.1⟩
  have := (h x hx).1.2
  subst e
  simp at this
theorem okAll_plain {xs : List D} (h : ∀ x ∈ xs, okD 60 x = true) : PyData.plainAll xs = true ∧ PyData.depthAll xs ≤ 60 := ⟨plainAll_of fun d hd => (okD_spec (h d hd)).1, depthAll_of fun d hd => (okD_spec (h d hd)).2⟩
theorem HasK.len {x : V} {d : D} {z : D} (h : HasK K B H x d) (e : lenD d = some z) : (∃ n, LenV K x H n ∧ z = .int n) ∨ (∃ a kvs, x = V.ref a ∧ H a = some (.dK kvs) ∧ z = .int kvs.length) ∨ (∃ a kvs, x = V.ref a ∧ H a = some (.dT kvs) ∧ z = .int kvs.length) := by
  rcases h with h | ⟨p, c, rfl, ok, e'⟩
  · cases h with
    | str y =>
      simp only [lenD] at e
      split at e
      · rename_i hl
        cases e
        exact .inl ⟨y.length, ⟨hl, rfl⟩, rfl⟩
      · cases e
    | lst h1 h2 => cases e; exact .inl ⟨_, .inl ⟨_, (h1.elim (fun h => .inl h.2) .inr), rfl⟩, by rw [h2.length]⟩
    | tup h1 h2 => cases e; exact .inl ⟨_, .inr ⟨_, h1.elim (fun h => .inl h.2) .inr, rfl⟩, by rw [h2.length]⟩
    | dK h0 h1 h2 h3 h4 =>
      cases e
      refine .inr (.inl ⟨_, _, rfl, h1, ?_⟩)
      have := h3.length
      rw [h4, h2, List.length_zip, ← this]
      simp
    | dT h0 h1 h2 h3 h4 =>
      cases e
      refine .inr (.inr ⟨_, _, rfl, h1, ?_⟩)
      have := h3.length
      rw [h4, h2, List.length_zip, ← this]
      simp
    | _ => cases e
  · subst e'
    cases c with
    | lst ds =>
      obtain ⟨vs, h1, h2⟩ := ok
      cases e
      exact .inl ⟨_, .inl ⟨_, .inl (.inl h1), rfl⟩, by rw [h2.length]⟩
    | dK kvs =>
      obtain ⟨vs, h1, h2, h3⟩ := ok
      cases e
      refine .inr (.inl ⟨_, _, rfl, h1, ?_⟩)
      have := congrArg List.length h2
      rw [List.length_map, List.length_map] at this
      rw [List.length_map, this]
    | dT kvs =>
      obtain ⟨vs, h1, h2, h3⟩ := ok
      cases e
      refine .inr (.inr ⟨_, _, rfl, h1, ?_⟩)
      have := congrArg List.length h2
      rw [List.length_map, List.length_map] at this
      rw [List.length_map, this]
end
section
variable {X : Cx}
theorem cb_abs : CallR X (.builtin "abs") (rB1 X.K absD) := by
  rintro pins s σ H xs us Q I r ⟨B, x, d, z, hf, rfl, hx, hg, q⟩
  cases d <;> try (cases hg)
  exact call_abs pins s σ H _ us Q I r ⟨_, by rw [hx.int], q _ H (Same.refl H) (.int _)⟩
theorem cb_int : CallR X (.type "int") (rB1 X.K intOfD) := by
  rintro pins s σ H xs us Q I r ⟨B, x, d, z, hf, rfl, hx, hg, q⟩
  cases d <;> try (cases hg)
  · exact call_int1 pins s σ H _ us Q I r (.inr ⟨_, by rw [hx.bl], q _ H (Same.refl H) (.int _)⟩)
  · exact call_int1 pins s σ H _ us Q I r (.inl ⟨_, by rw [hx.int], q _ H (Same.refl H) (.int _)⟩)
theorem cb_len : CallR X (.builtin "len") (rB1 X.K lenD) := by
  rintro pins s σ H xs us Q I r ⟨B, x, d, z, hf, rfl, hx, hg, q⟩
  rcases hx.len hg with ⟨n, h1, rfl⟩ | ⟨a, kvs, rfl, h1, rfl⟩ | ⟨a, kvs, rfl, h1, rfl⟩
  · exact call_len pins s σ H _ us Q I r ⟨x, n, rfl, h1, q _ H (Same.refl H) (.int _)⟩
  · exact call_lenD pins s σ H _ us Q I r ⟨a, kvs, rfl, h1, q _ H (Same.refl H) (.int _)⟩
  · exact call_len_dT pins s σ H _ us Q I r ⟨a, kvs, rfl, h1, q _ H (Same.refl H) (.int _)⟩
theorem cb_min2 (hc : X.calm = true) : CallR X (.builtin "min") (rB2 X.K minI) := by
  rintro pins s σ H xs us Q I r ⟨B, x, y, d, e, z, hf, rfl, hx, hy, hg, q⟩
  cases d <;> cases e <;> try (cases hg)
  exact call_min2 hc pins s σ H _ us Q I r ⟨_, _, by rw [hx.int_inv, hy.int], q _ H (Same.refl H) (.int _)⟩
theorem cb_max2 (hc : X.calm = true) : CallR X (.builtin "max") (rB2 X.K maxI) := by
  rintro pins s σ H xs us Q I r ⟨B, x, y, d, e, z, hf, rfl, hx, hy, hg, q⟩
  cases d <;> cases e <;> try (cases hg)
  exact call_max2 hc pins s σ H _ us Q I r ⟨_, _, by rw [hx.int_inv, hy.int], q _ H (Same.refl H) (.int _)⟩
theorem cb_tup : CallR X (.type "tuple") (rB1 X.K tupOf) := by
  rintro pins s σ H xs us Q I r ⟨B, x, d, z, hf, rfl, hx, hg, q⟩
  cases d <;> try (cases hg)
  · obtain ⟨a, vs, rfl, h1, h2, h3⟩ := hx.lst
    exact call_tuple_of pins s σ H _ us Q I r ⟨a, vs, rfl, .inl ⟨h2, fun l hl => q _ _ (same_upd hl) (.tup (.inl ⟨hf l hl, .inl upd_same⟩) (h3.same (same_upd hl)))⟩⟩
  · obtain ⟨a, vs, rfl, h1, h2, h3⟩ := hx.tup.tup_inv
    exact call_tuple_of pins s σ H _ us Q I r ⟨a, vs, rfl, .inr ⟨h2, q _ H (Same.refl H) (.tup h1 h3)⟩⟩
theorem HasL.toF {K : PySem.W.Frag} {B : Addr → Prop} {H : Hp} {vs ws : List V} {ds : List D} {l : Addr} (h : HasL K B H vs ds) (hl : H l = none) : HasL K (fun a => B a ∨ a = l) (upd H l (.lst ws)) vs ds :=
  h.ext fun c o hc ho => ⟨fun z => z.elim hc (ne_of_none ho hl), (same_upd hl) _ _ ho⟩
theorem cb_lst : CallR X (.type "list") (rB1F X.K lstOf) := by
  rintro pins s σ H xs us Q I r ⟨B, x, d, z, hf, rfl, hx, hg, q⟩
  cases d <;> try (cases hg)
  · obtain ⟨a, vs, rfl, h1, h2, h3⟩ := hx.lst
    exact call_list_of pins s σ H _ us Q I r ⟨a, vs, rfl, .inl h2, fun l hl => q l _ (same_upd hl) hl ⟨vs, upd_same, h3.toF hl⟩⟩
  · obtain ⟨a, vs, rfl, h1, h2, h3⟩ := hx.tup.tup_inv
    exact call_list_of pins s σ H _ us Q I r ⟨a, vs, rfl, .inr h2, fun l hl => q l _ (same_upd hl) hl ⟨vs, upd_same, h3.toF hl⟩⟩
theorem reads_list {pins : List (Addr × Obj)} {σ : L2.St} {H : Hp} {s : Shared} {K : PySem.W.Frag} {vs : List V} {us : List Value} {ds : List D} (I : Inv X pins σ H s) {B : Addr → Prop} (h : HasL X.K B H vs ds) (hp : PyData.plainAll ds = true) (r : Vals vs us) : ∃ as, ReadsAll s.heap us ds as := Dp.readsAll I ds vs us (h.dp hp) r

end
/-! ### min, max of one -/
theorem depth_of_readsAll : True := trivial
theorem itemsOf_inv {d : D} {xs : List D} (h : itemsOf d = some xs) : d = .list xs ∨ d = .tuple xs := by
  cases d <;> cases h
  · exact .inl rfl
  · exact .inr rfl
theorem Vals.get'' : ∀ {xs : List V} {us : List Value} {i : Nat} {u : Value}, Vals xs us → us[i]? = some u → ∃ x, xs[i]? = some x ∧ RelV x u
  | _, _, i, u, .nil, e => by simp at e
  | _, _, 0, u, .cons r t, e => by
    simp at e
    subst e
    exact ⟨_, rfl, r⟩
  | _, _, i + 1, u, .cons r t, e => by
    obtain ⟨x, e1, r1⟩ := Vals.get'' t (i := i) (u := u) (by simpa using e)
    exact ⟨x, by simpa using e1, r1⟩
theorem pick {X : Cx} {H : Hp} {s : Shared} {B : Addr → Prop} {vs : List V} {us : List Value} {ds : List D} {h' : Heap} {as bs : List Addr} {i : Nat} {v : Value} {z : D} (hh : HasL X.K B H vs ds) (r : Vals vs us) (rd : ReadsAll s.heap us ds as)
    (k : ∀ b o, s.heap.get? b = some o → h'.get? b = some o) (e : us[i]? = some v) (r2 : Reads h' v z bs) : ∃ w, RelV w v ∧ Has X.K B H w z := by
  obtain ⟨w, e1, r1⟩ := Vals.get'' r e
  obtain ⟨d, e2, h2⟩ := hh.get' e1
  obtain ⟨bs', r3, _⟩ := PySem.W.readsAll_at rd i v e
  have e4 : ds.getD i .none = d := by rw [List.getD_eq_getElem?_getD, e2]; rfl
  rw [e4] at r3
  have := (Reads.unique (PySem.W.reads_keeps k r3) _ _ r2).1
  subst this
  exact ⟨w, r1, h2⟩
section
variable {X : Cx}
theorem cb_min (hc : X.calm = true) (hu : X.A.units + 70 < cLine) : CallR X (.builtin "min") (rB1 X.K minOf) := by
  rintro pins s σ H xs us Q I r ⟨B, x, d, z, hf, rfl, hx, hg, q⟩
  obtain ⟨u, rfl, rx⟩ := vals1 r
  cases ei : itemsOf d with
  | none => unfold minOf at hg; rw [ei] at hg; cases hg
  | some ys =>
    unfold minOf at hg
    rw [ei] at hg
    cases ys with
    | nil => cases hg
    | cons y ys =>
      dsimp only at hg
      split at hg
      · rename_i ha
        cases hg
        obtain ⟨ha, hok⟩ := alikeB_spec ha
        obtain ⟨hp, hd⟩ := okAll_plain hok
        rcases itemsOf_inv ei with rfl | rfl
        · obtain ⟨a, vs, rfl, h1, h2, h3⟩ := hx.lst
          cases rx
          obtain ⟨its, rv, hl, _⟩ := I.list h2
          obtain ⟨as, ra⟩ := Dp.readsAll I _ vs its (h3.dp hp) rv
          refine PySem.W.min_list_data (I.ok.hd hc) hl.isList (by simpa using ra) ha (by omega) fun i v h' tk bs hv hr k => ?_
          obtain ⟨w, r1, hw⟩ := pick h3 rv ra k (by simpa using hv) hr
          exact ⟨w, H, I.kept k, r1, q _ H (Same.refl H) hw⟩
        · obtain ⟨a, vs, rfl, h1, h2, h3⟩ := hx.tup.tup_inv
          cases rx
          obtain ⟨its, rv, hl, _⟩ := I.tuple h2
          obtain ⟨as, ra⟩ := Dp.readsAll I _ vs its (h3.dp hp) rv
          refine PySem.W.min_tuple_data (I.ok.hd hc) hl (by simpa using ra) ha (by omega) fun i v h' tk bs hv hr k => ?_
          obtain ⟨w, r1, hw⟩ := pick h3 rv ra k (by simpa using hv) hr
          exact ⟨w, H, I.kept k, r1, q _ H (Same.refl H) hw⟩
      · cases hg
theorem cb_max (hc : X.calm = true) (hu : X.A.units + 70 < cLine) : CallR X (.builtin "max") (rB1 X.K maxOf) := by
  rintro pins s σ H xs us Q I r ⟨B, x, d, z, hf, rfl, hx, hg, q⟩
  obtain ⟨u, rfl, rx⟩ := vals1 r
  cases ei : itemsOf d with
  | none => unfold maxOf at hg; rw [ei] at hg; cases hg
  | some ys =>
    unfold maxOf at hg
    rw [ei] at hg
    cases ys with
    | nil => cases hg
    | cons y ys =>
      dsimp only at hg
      split at hg
      · rename_i ha
        cases hg
        obtain ⟨ha, hok⟩ := alikeB_spec ha
        obtain ⟨hp, hd⟩ := okAll_plain hok
        rcases itemsOf_inv ei with rfl | rfl
        · obtain ⟨a, vs, rfl, h1, h2, h3⟩ := hx.lst
          cases rx
          obtain ⟨its, rv, hl, _⟩ := I.list h2
          obtain ⟨as, ra⟩ := Dp.readsAll I _ vs its (h3.dp hp) rv
          refine PySem.W.max_list_data (I.ok.hd hc) hl.isList (by simpa using ra) ha (by omega) fun i v h' tk bs hv hr k => ?_
          obtain ⟨w, r1, hw⟩ := pick h3 rv ra k (by simpa using hv) hr
          exact ⟨w, H, I.kept k, r1, q _ H (Same.refl H) hw⟩
        · obtain ⟨a, vs, rfl, h1, h2, h3⟩ := hx.tup.tup_inv
          cases rx
          obtain ⟨its, rv, hl, _⟩ := I.tuple h2
          obtain ⟨as, ra⟩ := Dp.readsAll I _ vs its (h3.dp hp) rv
          refine PySem.W.max_tuple_data (I.ok.hd hc) hl (by simpa using ra) ha (by omega) fun i v h' tk bs hv hr k => ?_
          obtain ⟨w, r1, hw⟩ := pick h3 rv ra k (by simpa using hv) hr
          exact ⟨w, H, I.kept k, r1, q _ H (Same.refl H) hw⟩
      · cases hg
theorem each_of {K : PySem.W.Frag} {B : Addr → Prop} {H : Hp} : ∀ {vs : List V} {us : List Value} {ds : List D}, HasL K B H vs ds → Vals vs us → PySem.W.EachIs (fun u d => ∃ w, RelV w u ∧ Has K B H w d) us ds
  | _, _, _, .nil, .nil => .nil
  | _, _, _, .cons h t, .cons r q => .cons ⟨_, r, h⟩ (each_of t q)
theorem each_back {K : PySem.W.Frag} {B : Addr → Prop} {H : Hp} : ∀ {us : List Value} {ds : List D}, PySem.W.EachIs (fun u d => ∃ w, RelV w u ∧ Has K B H w d) us ds → ∃ vs, HasL K B H vs ds ∧ Vals vs us
  | _, _, .nil => ⟨[], .nil, .nil⟩
  | _, _, .cons ⟨w, r, h⟩ t => let ⟨vs, h1, r1⟩ := each_back t; ⟨w :: vs, .cons h h1, .cons r r1⟩
theorem each_reads {h : Heap} : ∀ {us : List Value} {ds : List D} {as : List Addr}, ReadsAll h us ds as → PySem.W.EachIs (fun v b => ∃ as, Reads h v b as) us ds
  | _, _, _, .nil => .nil
  | _, _, _, .cons h t => .cons ⟨_, h⟩ (each_reads t)
theorem sortB_spec {xs : List D} (h : sortB xs = true) : PySem.W.AllAlike xs ∧ PySem.W.Sortable xs ∧ ∀ x ∈ xs, okD 60 x = true := by
  simp only [sortB, Bool.and_eq_true, Bool.or_eq_true, List.all_eq_true] at h
  obtain ⟨h1, h2⟩ := h
  obtain ⟨⟨ha, hn⟩, hok⟩ := alikeB_spec h1
  refine ⟨ha, ?_, hok⟩
  rcases h2 with h2 | h2
  · refine .inl fun d hd => ?_
    have := h2 d hd
    cases d <;> try (cases this)
    rename_i ys
    cases ys with
    | nil => cases this
    | cons y ys => exact ⟨y, ys, rfl⟩
  · refine .inr fun d hd => ⟨hn d hd, fun ys e => ?_⟩
    have := h2 d hd
    subst e
    cases this
theorem cb_sort (hu : X.A.units + 70 < cLine) : CallR X (.builtin "sorted") (rB1F X.K sortF) := by
  rintro pins s σ H xs us Q I r ⟨B, x, d, z, hf, rfl, hx, hg, q⟩
  obtain ⟨u, rfl, rx⟩ := vals1 r
  cases d <;> try (cases hg)
  rename_i ds
  simp only [sortF] at hg
  split at hg
  · rename_i ho
    cases hg
    obtain ⟨h1, h2⟩ := ho
    obtain ⟨ha, hs, hok⟩ := sortB_spec h1
    obtain ⟨hp, hd⟩ := okAll_plain hok
    obtain ⟨a, vs, rfl, _, hq, h3⟩ := hx.lst
    cases rx
    obtain ⟨its, rv, hl, _⟩ := I.list hq
    obtain ⟨as, ra⟩ := Dp.readsAll I _ vs its (h3.dp hp) rv
    have id1 : ds.map (fun d => d) = ds := List.map_id' ds
    refine PySem.W.sorted_data (enc := fun d => d) (bs := ds) hl.isList (each_of h3 rv) (each_reads ra) (by rw [id1]; exact ha) (by rw [id1]; exact hs) h2 (fun b hb => ?_) fun out hlen he => ?_
    · have := (okD_spec (hok b hb)).2
      show X.A.units + 2 + b.depth < _
      omega
    · obtain ⟨ws, hw, rw'⟩ := each_back he
      obtain ⟨ep, he'⟩ := PyProof.Rows.sortedAll_at s.heap its out.toArray
      have h0 : H (s.heap.objs.size + 1) = none := I.hok.fresh (Nat.le_succ _)
      have hz : ws.length ≤ sizeLine := by rw [rw'.length, hlen]; exact h2
      exact ⟨.ref _, upd H (s.heap.objs.size + 1) (.lst ws), I.laid (t' := s.toks) (fun _ _ => PyProof.Rows.sortedAll_old) (Nat.le_succ _) ⟨hz, out, ep, rw', he'⟩, rfl, q _ _ (same_upd h0) h0 ⟨ws, upd_same, hw.toF h0⟩⟩
  · cases hg
theorem sum_rawT {prog : Program} {w : World} {A : Around} {E : Value → Shared → Prop} {s : Shared} {l : Addr} {its : List Value} {ns : List Int} {Q : Value → Shared → Prop} (hh : A.handled = none) (hl : s.heap.IsTuple l its.toArray) (hi : IntsAre its ns)
    (h : ∀ h' tk t', (∀ b o, s.heap.get? b = some o → h'.get? b = some o) → Q (.int ns.sum t') { s with heap := h', toks := tk }) : wpAny (model prog w) A (call (.builtin "sum") [.ref l]) Q E s := by
  obtain ⟨xs, e⟩ := hi.allInts.items
  have hn : numsOf (intItems xs).toList = ns := by rw [← e]; exact hi.numsOf
  rw [nums_intItems] at hn
  rw [e] at hl
  refine PySem.W.ktm_sumG hh hl fun h' tk t' hk => ?_
  have := h h' tk t' hk
  rw [preSum_eq, List.take_of_length_le (by simp), hn]; exact this
theorem cb_sum (hc : X.calm = true) : CallR X (.builtin "sum") (rB1 X.K sumD) := by
  rintro pins s σ H xs us Q I r ⟨B, x, d, z, hf, rfl, hx, hg, q⟩
  cases d <;> try (cases hg)
  · rename_i ds
    simp only [sumD] at hg
    cases e : intsOf ds with
    | none => rw [e] at hg; cases hg
    | some is =>
      rw [e] at hg
      cases hg
      cases intsOf_eq e
      obtain ⟨a, vs, rfl, _, hq, h3⟩ := hx.lst
      cases h3.int_inv
      exact cr_sum hc pins s σ H _ us Q I r ⟨a, is, rfl, hq, q _ H (Same.refl H) (.int _)⟩
  · rename_i ds
    simp only [sumD] at hg
    cases e : intsOf ds with
    | none => rw [e] at hg; cases hg
    | some is =>
      rw [e] at hg
      cases hg
      cases intsOf_eq e
      obtain ⟨a, vs, rfl, _, hq, h3⟩ := hx.tup.tup_inv
      cases h3.int_inv
      obtain ⟨u, rfl, rx⟩ := vals1 r
      cases rx
      obtain ⟨its, rv, hl, _⟩ := I.tuple hq
      exact sum_rawT (I.ok.hd hc) hl rv.ints fun h' tk t' hk => ⟨.int _, H, I.kept hk, ⟨_, rfl⟩, q _ H (Same.refl H) (.int _)⟩
end

/-! ### isinstance -/
def isT (p : D → Bool) (d : D) : Option D := if okD 60 d = true then some (.bool (p d)) else none
def rIs (K : PySem.W.Frag) (T : String) (p : D → Bool) : List V → Hp → VK → Prop := fun xs H Q => ∃ (B : Addr → Prop) (x : V) (d z : D), (∀ p, H p = none → ¬ B p) ∧ xs = [x, .ty T] ∧ HasK K B H x d ∧ isT p d = some z ∧ ∀ v H', Same H H' → Has K B H' v z → Q v H'
/-- the test T tells p -/
def IsaOk (X : Cx) (T : String) (p : D → Bool) : Prop := CallR X (.builtin "isinstance") (rIs X.K T p)
section
variable {X : Cx} {G : Gc} {W : WX} {a b e : Expr} {m : M D} {pos p p2 : Pos} {x : Str} {T : String}
theorem isa_of {P : D → Bool} (h : ∀ {A : Around} {E : Value → Shared → Prop} {s : Shared} {v : Value} {d : D} {as : List Addr} {Q : Value → Shared → Prop} (r : Reads s.heap v d as) (q : ∀ tk, s.toks ≤ tk → Q (.bool (P d)) { s with toks := tk }), wpAny (model X.prog X.w) A (call (.builtin "isinstance") [v, .type T]) Q E s) : IsaOk X T P := by
  rintro pins s σ H xs us Q I r ⟨B, x, d, z, hf, rfl, hx, hg, q⟩
  obtain ⟨u, u2, rfl, r1, r2⟩ := vals2 r
  cases (show u2 = Value.type T from r2)
  simp only [isT] at hg
  split at hg
  · rename_i ho
    cases hg
    obtain ⟨as, rd⟩ := hx.reads I ho r1
    exact h rd fun tk _ => ⟨.bl _, H, I.tok tk, rfl, q _ H (Same.refl H) (.bl _)⟩
  · cases hg
theorem isa_int : IsaOk X "int" PyData.isInt := isa_of PySem.W.isinstance_int_data
theorem isa_bool : IsaOk X "bool" PyData.isBool := isa_of PySem.W.isinstance_bool_data
theorem isa_str : IsaOk X "str" PyData.isStr := isa_of PySem.W.isinstance_str_data
theorem isa_list : IsaOk X "list" PyData.isList := isa_of PySem.W.isinstance_list_data
theorem isa_tup : IsaOk X "tuple" PyData.isTuple := isa_of PySem.W.isinstance_tuple_data
theorem de_isa {P : D → Bool} {y : Str} (h : IsaOk X T P) (ha : DK X G W e m) (hm : X.mg "isinstance" = none) (hm2 : X.mg y = none) (hv2 : bootBuiltins y = some (.type T) := by rfl) (hg : Gl X "isinstance" := by rfl) (hg2 : Gl X y := by rfl) (hy : (y == ("__debug__" : Str)) = false := by decide) (hyn : y ≠ "__name__" := by decide)
    (hs1 : starEach [e, .Name y p2] X.env = (false, eval e X.env) :: starEach [.Name y p2] X.env := by rfl) (hpl : (backTo pos (starEach [.Name y p2] X.env)).any (·.1) = false := by rfl) (hs2 : starEach [.Name y p2] X.env = (false, eval (.Name y p2) X.env) :: starEach [] X.env := by rfl) (hk : X.K = G.K := by rfl) :
    DE X G W (.Call (.Name "isinstance" p) [e, .Name y p2] [] pos) (M.un (isT P) m) := by
  refine imp (pe_callB h hg hm (by rfl) (pa_cons ha (pa_cons (pe_bltn (v := .ty T) hg2 hm2 hv2 rfl hyn hy) pa_nil hs2) hs1) (by decide) (by decide) hs1 hpl) ?_
  rintro σ H Q ⟨ρ, f, r, R, hm, hp⟩
  refine tK_bind R hm (xok hp) fun d ρ1 v H1 hk1 R1 x1 hv => ?_
  obtain ⟨z, e, er⟩ := lift_inv hk1
  subst er
  rw [hk]
  exact ⟨Bad G ρ1 f, v, d, z, fun p h => R1.free h, rfl, hv, e, fun w H' s hw => hp w H' (R1.same s) (x1.trans (Ext.same s)) hw⟩
end
end DL
namespace DL
open PySem PySem.Spec PyProof.Rows L2

/-! ### an object that is kept as it is for a while -/
def Gc.pin (G : Gc) (p : Addr) (o : HO) : Gc := { G with A := fun a => G.A a ∨ a = p, H0 := L2.upd G.H0 p o }
structure Apt (G : Gc) (p : Addr) : Prop where
  a : ¬ G.A p
  h0 : G.H0 p = none
  t : ¬ G.T p
  inn : ∀ q ∈ G.inns, G.A q.2
section
variable {G : Gc} {σ σ' : L2.St} {H H' : Hp} {ρ ρ' : Rho} {f : Nat → Addr} {p : Addr} {o o' : HO}
theorem Rel.apt (R : Rel G σ H ρ f) (h : H p = none) : Apt G p where
  a := (R.fresh h).a
  h0 := (R.fresh h).h0
  t := fun z => by
    obtain ⟨_, ps, e, _⟩ := R.dom.2 p z
    rw [h] at e; cases e
  inn := fun q hq => by
    obtain ⟨c, e1, e2⟩ := R.innB q hq
    rw [← e2]
    exact (R.inn _ _ e1).2
theorem bad_pin {a : Addr} : Bad (G.pin p o) ρ f a ↔ Bad G ρ f a ∨ a = p := bad_plus (G := G) (p := p)
theorem SlOk.pin {B : Addr → Prop} {q : Addr} {s : Sl} {v : V} (h : SlOk G B H q v s) : SlOk (G.pin p o) B H q v s := by
  cases s <;> exact h
theorem SlOk.unpin {B : Addr → Prop} {q : Addr} {s : Sl} {v : V} (h : SlOk (G.pin p o) B H q v s) : SlOk G B H q v s := by
  cases s <;> exact h
theorem Rel.toPin (R : Rel G σ H ρ f) (h0 : H p = none) : Rel (G.pin p o) σ (L2.upd H p o) ρ f := by
  have R1 := R.grow h0 (same_upd (o := o) h0) ⟨o, upd_same⟩
  have ap := R.apt h0
  refine ⟨R1.len, fun a o' e hn ht => ?_, R1.dom, fun i c e => ⟨(R1.own i c e).1, ?_⟩, R1.inj, R1.inn, R1.innB, fun i s e => ?_⟩
  · by_cases ha : a = p
    · subst ha
      rw [show (G.pin a o).H0 a = some o from upd_same] at e
      cases e
      exact upd_same
    · rw [show (G.pin p o).H0 a = G.H0 a from upd_ne ha] at e
      exact R1.keep a o' e hn ht
  · rw [show (G.pin p o).H0 (f i) = G.H0 (f i) from upd_ne fun z => (R1.own i c e).1 (.inr z)]
    exact (R.own i c e).2
  · obtain ⟨v, e1, h⟩ := R1.sl i s e
    exact ⟨v, e1, SlOk.pin (SlOk.minus h)⟩
theorem Rel.at (R : Rel (G.pin p o) σ H ρ f) (ap : Apt G p) : H p = some o :=
  R.keep p o upd_same (fun q hq z => ap.a (z ▸ ap.inn q hq)) ap.t
theorem Rel.unpin (R : Rel (G.pin p o) σ H ρ f) (ap : Apt G p) : Rel (G.plus p) σ H ρ f := by
  refine ⟨R.len, fun a o' e hn ht => ?_, R.dom, fun i c e => ⟨(R.own i c e).1, ?_⟩, R.inj, R.inn, R.innB, fun i s e => ?_⟩
  · have ha : a ≠ p := fun z => by
      rw [z] at e
      rw [show (G.plus p).H0 p = none from ap.h0] at e
      cases e
    exact R.keep a o' (by rw [show (G.pin p o).H0 a = G.H0 a from upd_ne ha]; exact e) hn ht
  · have := (R.own i c e).2
    rw [show (G.pin p o).H0 (f i) = G.H0 (f i) from upd_ne fun z => (R.own i c e).1 (.inr z)] at this
    exact this
  · obtain ⟨v, e1, h⟩ := R.sl i s e
    exact ⟨v, e1, (SlOk.unpin h).plus⟩
theorem Rel.nf (R : Rel (G.pin p o) σ H ρ f) (ap : Apt G p) {i : Nat} {b : Bool} {c : Cell} (e : ρ[i]? = some (some (.mut b c))) : f i ≠ p := by
  cases b with
  | true => exact fun z => (R.own i c e).1 (.inr z)
  | false => exact fun z => ap.a (z ▸ ap.inn _ (R.inn i c e).1)
/-- it is rewritten -/
theorem Rel.repin (R : Rel (G.pin p o) σ H ρ f) (ap : Apt G p) : Rel (G.pin p o') σ (L2.upd H p o') ρ f := by
  have x : Ext (Bad (G.pin p o) ρ f) H (Bad (G.pin p o') ρ f) (L2.upd H p o') := fun a ob hb e => by
    have ha : a ≠ p := fun z => hb (bad_pin.mpr (.inr z))
    exact ⟨fun z => hb (bad_pin.mpr (bad_pin.mp z)), by rw [upd_ne ha]; exact e⟩
  refine ⟨R.len, fun a o'' e hn ht => ?_, ⟨fun a h => ?_, fun a h => ⟨(R.dom.2 a h).1, ?_⟩⟩, fun i c e => ⟨(R.own i c e).1, ?_⟩, R.inj, R.inn, R.innB, fun i s e => ?_⟩
  · by_cases ha : a = p
    · subst ha
      rw [show (G.pin a o').H0 a = some o' from upd_same] at e
      cases e
      exact upd_same
    · rw [show (G.pin p o').H0 a = G.H0 a from upd_ne ha] at e
      rw [upd_ne ha]
      exact R.keep a o'' (by rw [show (G.pin p o).H0 a = G.H0 a from upd_ne ha]; exact e) hn ht
  · by_cases ha : a = p
    · subst ha; exact ⟨o', upd_same⟩
    · obtain ⟨u, e⟩ := R.dom.1 a h
      exact ⟨u, by rw [upd_ne ha]; exact e⟩
  · obtain ⟨ps, e, tr⟩ := (R.dom.2 a h).2
    exact ⟨ps, by rw [upd_ne (show a ≠ p from fun z => ap.t (z ▸ h))]; exact e, tr⟩
  · have := (R.own i c e).2
    rw [show (G.pin p o).H0 (f i) = G.H0 (f i) from upd_ne fun z => (R.own i c e).1 (.inr z)] at this
    rw [show (G.pin p o').H0 (f i) = G.H0 (f i) from upd_ne fun z => (R.own i c e).1 (.inr z)]
    exact this
  · obtain ⟨v, e1, h⟩ := R.sl i s e
    refine ⟨v, e1, ((SlOk.unpin h).ext x ?_).pin⟩
    rintro ⟨b, c, rfl⟩
    rw [upd_ne (R.nf ap e)]
/-- a new list -/
theorem Rel.newAt {vs : List V} {ds : List D} (R : Rel (G.pin p (.lst vs)) σ H ρ f) (ap : Apt G p) (h : HasL G.K (Bad (G.pin p (.lst vs)) ρ f) H vs ds) : NewAt G σ H ρ f p (.lst ds) := by
  have RP := R.unpin ap
  have fr : Fresh G ρ f p := ⟨ap.a, ap.h0, fun i b c e => R.nf ap e⟩
  exact ⟨RP.minus fr (fun i c e => ap.inn _ (RP.inn i c e).1) ap.t, RP, fr, ⟨vs, R.at ap, HasL.ext (B := Bad (G.pin p (.lst vs)) ρ f) (fun a ob hb e => ⟨fun z => hb (bad_pin.mpr z), e⟩) h⟩⟩
/-- what slots say nothing may hold anything -/
theorem Rel.slots (R : Rel G σ H ρ f) (hl : σ'.length = σ.length) (h : ∀ (i : Nat) (s : Sl), ρ[i]? = some (some s) → σ'[i]? = σ[i]?) : Rel G σ' H ρ f :=
  ⟨hl.trans R.len, R.keep, R.dom, R.own, R.inj, R.inn, R.innB, fun i s e => by rw [h i s e]; exact R.sl i s e⟩
end

/-! ### a block's own names -/
def wipeR (ρ : Rho) : List Nat → Rho
  | [] => ρ
  | v :: vs => (wipeR ρ vs).set v none
theorem wipeR_len (ρ : Rho) : ∀ vs, (wipeR ρ vs).length = ρ.length
  | [] => rfl
  | v :: vs => by rw [wipeR, List.length_set, wipeR_len ρ vs]
theorem wipeR_at {ρ : Rho} {i : Nat} {s : Sl} : ∀ {vs : List Nat}, (wipeR ρ vs)[i]? = some (some s) → ρ[i]? = some (some s) ∧ i ∉ vs
  | [], h => ⟨h, by simp⟩
  | v :: vs, h => by
    rcases get_set (show ((wipeR ρ vs).set v none)[i]? = _ from h) with ⟨_, e, _⟩ | ⟨hne, e⟩
    · cases e
    · obtain ⟨h1, h2⟩ := wipeR_at e
      exact ⟨h1, by simp [hne, h2]⟩
def noInn (ρ : Rho) (vs : List Nat) : Bool := vs.all fun v => !isInn ρ v
theorem isInn_wipe {ρ : Rho} {i : Nat} (h : isInn ρ i = false) (vs : List Nat) : isInn (wipeR ρ vs) i = false := by
  cases e : isInn (wipeR ρ vs) i with
  | false => rfl
  | true =>
    unfold isInn at e
    split at e
    · rename_i c e2
      have := (wipeR_at e2).1
      unfold isInn at h
      rw [this] at h
      cases h
    · cases e
theorem Rel.wipe {G : Gc} {σ : L2.St} {H : Hp} {ρ : Rho} {f : Nat → Addr} (R : Rel G σ H ρ f) : ∀ (vs : List Nat), noInn ρ vs = true → Rel G (L2.wipe σ vs) H (wipeR ρ vs) f ∧ Ext (Bad G ρ f) H (Bad G (wipeR ρ vs) f) H
  | [], _ => ⟨R, Ext.refl _ _⟩
  | v :: vs, h => by
    simp only [noInn, List.all_cons, Bool.and_eq_true] at h
    obtain ⟨R1, x1⟩ := Rel.wipe R vs (by simpa [noInn] using h.2)
    obtain ⟨R2, x2⟩ := R1.put (i := v) (s := none) (w := none) (isInn_wipe (by simpa using h.1) vs) (fun t e => nomatch e)
    exact ⟨R2, x1.trans x2⟩
theorem wipe_set {σ : L2.St} {x : Option V} {i : Nat} : ∀ {vs : List Nat}, i ∈ vs → L2.wipe (σ.set i x) vs = L2.wipe σ vs
  | v :: vs, h => by
    unfold L2.wipe
    by_cases hi : i ∈ vs
    · rw [wipe_set hi]
    · have e : i = v := by simpa [hi] using h
      subst e
      have : ∀ (ws : List Nat), i ∉ ws → L2.wipe (σ.set i x) ws = (L2.wipe σ ws).set i x := fun ws => by
        induction ws with
        | nil => intro _; rfl
        | cons w ws ih =>
          intro hn
          have h1 : i ≠ w := fun z => hn (by simp [z])
          have h2 : i ∉ ws := fun z => hn (by simp [z])
          unfold L2.wipe
          rw [ih h2, List.set_comm _ _ h1]
      rw [this vs hi, List.set_set]

/-! ### its targets -/
def tGv (G : Gc) (vs : List Nat) (m : TgM) : TG := fun v σ H Q => ∃ ρ f d ρ', Rel G σ H ρ f ∧ Has G.K (Bad G ρ f) H v d ∧ m d ρ = some ρ' ∧ ∀ σ', L2.wipe σ' vs = L2.wipe σ vs → Rel G σ' H ρ' f → Ext (Bad G ρ f) H (Bad G ρ' f) H → Q σ' H
abbrev DGv (X : Cx) (G : Gc) (vs : List Nat) (e : Expr) (m : TgM) : Prop := PG X e (tGv G vs m)
def tGvs (G : Gc) (vs : List Nat) (m : List D → Rho → Option Rho) : TGs := fun us σ H Q => ∃ ρ f ds ρ', Rel G σ H ρ f ∧ HasL G.K (Bad G ρ f) H us ds ∧ m ds ρ = some ρ' ∧ ∀ σ', L2.wipe σ' vs = L2.wipe σ vs → Rel G σ' H ρ' f → Ext (Bad G ρ f) H (Bad G ρ' f) H → Q σ' H
abbrev DGvs (X : Cx) (G : Gc) (vs : List Nat) (es : List Expr) (m : List D → Rho → Option Rho) : Prop := PGs X es (tGvs G vs m)
section
variable {X : Cx} {G : Gc} {W : WX} {e tg elt iter : Expr} {es ifs : List Expr} {m me : M D} {mt : M Bool} {pos : Pos} {gm : TgM} {gr : List D → Rho → Option Rho} {vs : List Nat}
theorem dgv_name {x : Str} (i : Nat) (hN : X.N.Nodup) (hv : i ∈ vs := by decide) (hi : X.N[i]? = some x := by rfl) (hx : Loc X.env.scope x := by first | exact Or.inl rfl | exact Or.inr rfl) (hf : X.fn x = true ∨ X.env.scope.names.lookup x = some .local := by first | exact .inr rfl | exact .inl rfl) : DGv X G vs (.Name x pos) (tgN i) := by
  refine impG (pg_name hN hi hx hf) ?_
  rintro v σ H Q ⟨ρ, f, d, ρ', R, h, hm, q⟩
  unfold tgN at hm
  split at hm
  · cases hm
  · rename_i hin
    cases hm
    obtain ⟨R', x⟩ := R.putD (i := i) (by simpa using hin) h
    exact q _ (wipe_set hv) R' x
theorem dgvs_nil : DGvs X G vs [] tgNil := impGs pgs_nil fun v σ H Q ⟨ρ, f, ds, ρ', R, h, hm, q⟩ => by
  cases h with
  | nil => cases hm; exact ⟨rfl, q σ rfl R (Ext.refl _ _)⟩
  | cons _ _ => cases hm
theorem dgvs_cons (h : DGv X G vs e gm) (h2 : DGvs X G vs es gr) (hs : (assignEach (e :: es) X.env).map (·.2) = assign e X.env :: (assignEach es X.env).map (·.2) := by rfl) : DGvs X G vs (e :: es) (tgCons gm gr) := by
  refine impGs (pgs_cons h h2 hs) ?_
  rintro v σ H Q ⟨ρ, f, ds, ρ', R, h, hm, q⟩
  cases h with
  | nil => cases hm
  | cons h1 h2 =>
    obtain ⟨ρ1, e1, e2⟩ := Option.bind_eq_some_iff.mp (show (gm _ ρ).bind _ = some ρ' from hm)
    exact ⟨_, _, rfl, ρ, f, _, ρ1, R, h1, e1, fun σ1 w1 R1 x1 => ⟨ρ1, f, _, ρ', R1, h2.ext x1, e2, fun σ2 w2 R2 x2 => q σ2 (w2.trans w1) R2 (x1.trans x2)⟩⟩
theorem dgv_tup {kk l : Nat} (hc : X.calm = true) (h : DGvs X G vs es gr) (hn : (assignEach es X.env).length = l := by rfl) (hst : (assignEach es X.env).findIdx? (·.1) = none := by rfl) (hk : X.K = G.K := by rfl) : DGv X G vs (.Tuple es kk pos) (tgT l gr) := by
  refine impG (pg_tup hc h hn hst) ?_
  rintro v σ H Q ⟨ρ, f, d, ρ', R, h, hm, q⟩
  cases d <;> try (cases hm)
  rename_i ds
  simp only [tgT] at hm
  split at hm
  · rename_i hl
    obtain ⟨a, xs, rfl, r1, s1, h1⟩ := h.tup_inv
    exact ⟨a, xs, rfl, hk ▸ s1, by rw [h1.length]; exact hl, ρ, f, ds, ρ', R, h1, hm, q⟩
  · cases hm

/-! ### [elt for target in iter if test] -/
abbrev F0 : WX := fun _ _ _ _ => False
def M.yes : M Bool := .ret true
abbrev DTs (X : Cx) (G : Gc) (W : WX) (es : List Expr) (m : M Bool) : Prop := PTs X es (tT G W m)
theorem dts_nil : DTs X G W [] M.yes := ⟨fun pins s σ H Q I h => pts_nil.run pins s σ H Q I (by
  obtain ⟨ρ, f, r, R, hm, hp⟩ := h
  cases hm
  exact hp H R (Ext.refl _ _))⟩
theorem dts_one (h : DT X G W e mt) : DTs X G W [e] mt := pts_one h
def lcLoop (g : TgM) (mt : M Bool) (me : M D) (vs : List Nat) : List D → List D → Rho → Option (List D × Rho)
  | [], acc, ρ => some (acc, ρ)
  | d :: r, acc, ρ => match g d ρ with
    | none => none
    | some ρ2 => match mt ρ2 with
      | some (.val true ρ3) => match me ρ3 with
        | some (.val y ρ4) => if acc.length < 16777216 ∧ noInn ρ4 vs = true then lcLoop g mt me vs r (acc ++ [y]) (wipeR ρ4 vs) else none
        | _ => none
      | some (.val false ρ3) => if noInn ρ3 vs = true then lcLoop g mt me vs r acc (wipeR ρ3 vs) else none
      | _ => none
def M.lc (ms : M (List D)) (g : TgM) (mt : M Bool) (me : M D) (vs : List Nat) : M Cell := ms.bind fun ds ρ => if noInn ρ vs = true then match lcLoop g mt me vs ds [] (wipeR ρ vs) with
  | some (acc, ρ') => if noInn ρ' vs = true then some (.val (.lst acc) (wipeR ρ' vs)) else none
  | none => none else none
theorem wipe_wipe {σ : L2.St} {vs : List Nat} : L2.wipe (L2.wipe σ vs) vs = L2.wipe σ vs := by
  apply List.ext_getElem?
  intro i
  by_cases hi : i ∈ vs
  · have key : ∀ (τ : L2.St), (L2.wipe τ vs)[i]? = if i < τ.length then some none else none := fun τ => by
      have : ∀ (ws : List Nat), i ∈ ws → (L2.wipe τ ws)[i]? = if i < τ.length then some none else none := fun ws => by
        induction ws with
        | nil => intro h; simp at h
        | cons w ws ih =>
          intro h
          unfold L2.wipe
          by_cases e : w = i
          · subst e
            rw [List.getElem?_set]
            simp [wipe_length]
          · rw [List.getElem?_set_ne e]
            exact ih (by simpa [Ne.symm e] using h)
      exact this vs hi
    rw [key, key, wipe_length]
  · have key : ∀ (τ : L2.St), (L2.wipe τ vs)[i]? = τ[i]? := fun τ => by
      have : ∀ (ws : List Nat), i ∉ ws → (L2.wipe τ ws)[i]? = τ[i]? := fun ws => by
        induction ws with
        | nil => intro _; rfl
        | cons w ws ih =>
          intro h
          unfold L2.wipe
          rw [List.getElem?_set_ne (fun z => h (by simp [z])), ih fun z => h (by simp [z])]
      exact this vs hi
    rw [key]
theorem tI_bind {α : Type} {ms : M (List D)} {k : List D → M α} {σ : L2.St} {H : Hp} {ρ : Rho} {f : Nat → Addr} {r : R α} {Q : It → Hp → Prop} (Rl : Rel G σ H ρ f) (h : M.bind ms k ρ = some r) (hx : ∀ c ρ', r = .exc c ρ' → XP G W σ c ρ' f)
    (hk : ∀ ds ρ' J n Gh Y H', k ds ρ' = some r → Rel G σ H' ρ' f → Ext (Bad G ρ f) H (Bad G ρ' f) H' → WalkOk G (Bad G ρ' f) H' ds J n Gh Y → Q J H') : tI G W ms σ H Q := by
  rcases bind_inv h with ⟨c, ρ', e1, e2⟩ | ⟨d, ρ', e1, e2⟩
  · exact ⟨ρ, f, _, Rl, e1, hx c ρ' e2⟩
  · exact ⟨ρ, f, _, Rl, e1, fun J n Gh Y H' R' x hh => hk d ρ' J n Gh Y H' e2 R' x hh⟩
theorem wipe_rel {σ σ2 : L2.St} {H : Hp} {ρ : Rho} {f : Nat → Addr} (R : Rel G σ2 H ρ f) (h : noInn ρ vs = true) (e : L2.wipe σ2 vs = L2.wipe σ vs) : Rel G (L2.wipe σ vs) H (wipeR ρ vs) f ∧ Ext (Bad G ρ f) H (Bad G (wipeR ρ vs) f) H := e ▸ R.wipe vs h
theorem wipe_at {σ : L2.St} {i : Nat} : ∀ {vs : List Nat}, i ∉ vs → (L2.wipe σ vs)[i]? = σ[i]?
  | [], _ => rfl
  | v :: vs, h => by
    unfold L2.wipe
    rw [List.getElem?_set_ne (fun z => h (by simp [z])), wipe_at fun z => h (by simp [z])]
def tPinD (G : Gc) (m : M D) : TE := fun σ H Q => ∃ p o, tD (G.pin p o) F0 m σ H Q
def tPinT (G : Gc) (m : M Bool) : TT := fun σ H Q => ∃ p o, tT (G.pin p o) F0 m σ H Q
def tPinG (G : Gc) (vs : List Nat) (g : TgM) : TG := fun v σ H Q => ∃ p o, tGv (G.pin p o) vs g v σ H Q
theorem pin_d (h : ∀ p o, DE X (G.pin p o) F0 e m) : PE X e (tPinD G m) := ⟨fun pins s σ H Q I ⟨p, o, hq⟩ => (h p o).run pins s σ H Q I hq⟩
theorem pin_t (h : ∀ p o, DTs X (G.pin p o) F0 es mt) : PTs X es (tPinT G mt) := ⟨fun pins s σ H Q I ⟨p, o, hq⟩ => (h p o).run pins s σ H Q I hq⟩
theorem pin_g (h : ∀ p o, DGv X (G.pin p o) vs e gm) : PG X e (tPinG G vs gm) := ⟨fun pins s σ H v u Q I r ⟨p, o, hq⟩ => (h p o).run pins s σ H v u Q I r hq⟩
theorem slots_back {σ : L2.St} {H : Hp} {ρ : Rho} {f : Nat → Addr} (R : Rel G (L2.wipe σ vs) H ρ f) (h : noInn ρ vs = true) : Rel G σ H (wipeR ρ vs) f ∧ Ext (Bad G ρ f) H (Bad G (wipeR ρ vs) f) H := by
  obtain ⟨R1, x1⟩ := R.wipe vs h
  refine ⟨R1.slots (by rw [wipe_length, wipe_length]) fun i s e => ?_, x1⟩
  have hi := (wipeR_at e).2
  rw [wipe_at hi, wipe_at hi]
theorem lc_imp {ms : M (List D)} {g : TgM} : ∀ σ H Q, tF G W (M.lc ms g mt me vs) σ H Q → tLc (tI G W ms) (tPinG G vs g) (tPinT G mt) (tPinD G me) vs σ H Q := by
  rintro σ H Q ⟨ρ, f, r, R, hm, hp⟩
  refine tI_bind R hm (xok hp) fun ds ρ1 J n Gh Y H1 hk R1 x1 wk => ?_
  intro D hD
  split at hk
  · rename_i hn1
    cases el : lcLoop g mt me vs ds [] (wipeR ρ1 vs) with
    | none => rw [el] at hk; cases hk
    | some res =>
      rw [el] at hk
      obtain ⟨out, ρ'⟩ := res
      dsimp only at hk
      split at hk
      · rename_i hn2
        cases hk
        have ap := R1.apt hD
        obtain ⟨Rw, xw⟩ := R1.wipe vs hn1
        have R2 : Rel (G.pin D (.lst [])) (L2.wipe σ vs) (L2.upd H1 D (.lst [])) (wipeR ρ1 vs) f := Rw.toPin hD
        have x2 : Ext (Bad G ρ1 f) H1 (Bad (G.pin D (.lst [])) (wipeR ρ1 vs) f) (L2.upd H1 D (.lst [])) := fun a ob hb e => by
          obtain ⟨h1, h2⟩ := xw a ob hb e
          exact ⟨fun z => (bad_pin.mp z).elim h1 (ne_of_none e hD), same_upd hD _ _ e⟩
        refine lc_it wk.walk (fun i H2 => ∃ (ρ2 : Rho) (vacc : List V) (acc : List DL.D), Rel (G.pin D (.lst vacc)) (L2.wipe σ vs) H2 ρ2 f ∧ HasL G.K (Bad (G.pin D (.lst vacc)) ρ2 f) H2 vacc acc ∧ lcLoop g mt me vs (ds.drop i) acc ρ2 = some (out, ρ') ∧ Ext (Bad G ρ1 f) H1 (Bad (G.pin D (.lst vacc)) ρ2 f) H2)
          ⟨_, [], [], R2, .nil, by simpa using el, x2⟩ (fun i H2 _ ⟨ρ2, vacc, acc, _, _, _, x3⟩ => wk.keep _ _ x3) ?_ ?_
        · rintro i x H2 H3 hi ⟨ρ2, vacc, acc, R3, ha, hl, x3⟩ y
          have hlt : i < ds.length := by rw [wk.len]; exact hi
          rw [List.drop_eq_getElem_cons hlt] at hl
          obtain ⟨s3, hx⟩ := wk.item i ds[i] (Bad (G.pin D (.lst vacc)) ρ2 f) H2 x H3 (List.getElem?_eq_getElem hlt) x3 (fun p h => R3.free h) y
          have R4 := R3.same s3
          have ha4 := ha.same s3
          simp only [lcLoop] at hl
          cases eg : g ds[i] ρ2 with
          | none => rw [eg] at hl; cases hl
          | some ρ3 =>
            rw [eg] at hl
            dsimp only at hl
            refine ⟨D, .lst vacc, ρ2, f, ds[i], ρ3, R4, hx, eg, fun σ5 w5 R5 x5 => ⟨by rw [w5]; exact wipe_wipe, ?_⟩⟩
            have w5' : L2.wipe σ5 vs = L2.wipe σ vs := w5.trans wipe_wipe
            cases et : mt ρ3 with
            | none => rw [et] at hl; cases hl
            | some rt =>
              rw [et] at hl
              cases rt with
              | exc c ρ4 => cases hl
              | val b ρ4 =>
                refine ⟨D, .lst vacc, ρ3, f, _, R5, et, fun H6 R6 x6 => ?_⟩
                have xx6 := ((x3.trans (Ext.same s3)).trans x5).trans x6
                have ha6 := (ha4.ext x5).ext x6
                cases b with
                | false =>
                  show if false = true then _ else _
                  rw [if_neg Bool.false_ne_true]
                  dsimp only at hl
                  split at hl
                  · rename_i hn
                    obtain ⟨R7, x7⟩ := wipe_rel R6 hn w5'
                    exact ⟨_, vacc, acc, R7, ha6.ext x7, hl, xx6.trans x7⟩
                  · cases hl
                | true =>
                  show if true = true then _ else _
                  rw [if_pos rfl]
                  dsimp only at hl
                  cases ev : me ρ4 with
                  | none => rw [ev] at hl; cases hl
                  | some rv =>
                    rw [ev] at hl
                    cases rv with
                    | exc c ρ5 => cases hl
                    | val yd ρ5 =>
                      dsimp only at hl
                      split at hl
                      · rename_i hn
                        refine ⟨D, .lst vacc, ρ4, f, _, R6, ev, fun yv H7 R7 x7 hy => ?_⟩
                        have ha7 := ha6.ext x7
                        refine ⟨vacc, R7.at ap, by rw [ha7.length]; exact hn.1, ?_⟩
                        obtain ⟨R8, x8⟩ := wipe_rel R7 hn.2 w5'
                        have R9 := R8.repin (o' := .lst (vacc ++ [yv])) ap
                        have x9 : Ext (Bad (G.pin D (.lst vacc)) (wipeR ρ5 vs) f) H7 (Bad (G.pin D (.lst (vacc ++ [yv]))) (wipeR ρ5 vs) f) (L2.upd H7 D (.lst (vacc ++ [yv]))) := fun a ob hb e => by
                          have hne : a ≠ D := fun z => hb (bad_pin.mpr (.inr z))
                          exact ⟨fun z => hb (bad_pin.mpr (bad_pin.mp z)), by rw [upd_ne hne]; exact e⟩
                        exact ⟨_, _, _, R9, ((ha7.ext x8).ext x9).append (.cons ((hy.ext x8).ext x9) .nil), hl, ((xx6.trans x7).trans x8).trans x9⟩
                      · cases hl
        · rintro H2 ⟨ρ2, vacc, acc, R3, ha, hl, x3⟩
          rw [← wk.len, List.drop_length] at hl
          cases hl
          obtain ⟨R4, x4⟩ := slots_back R3 hn2
          refine hp D H2 (R4.newAt ap (ha.ext x4)) fun a ob hb e => ?_
          obtain ⟨h1, h2⟩ := ((x1.trans x3).trans x4) a ob hb e
          exact ⟨fun z => h1 (bad_pin.mpr z), h2⟩
      · cases hk
  · cases hk
/-- [elt for target in iter if test] as a new object -/
theorem df_lc {ms : M (List D)} {g : TgM} {scope : Scope} (own : List (Str × Nat)) (hc : X.calm = true) (hN : X.N.Nodup) (ok : BlkOk X.N X.env.scope scope own) (hi : DI X G W tg iter ms)
    (hg : ∀ (s : Shared) (H : Hp) (C : Addr) (cl : List (Str × Addr)) (fp : List Addr) (p : Addr) (o : HO), DGv (X.blk s H scope (compEnvC scope cl C X.env) fp) (G.pin p o) (own.map (·.2)) tg g)
    (ht : ∀ (s : Shared) (H : Hp) (C : Addr) (cl : List (Str × Addr)) (fp : List Addr) (p : Addr) (o : HO), DTs (X.blk s H scope (compEnvC scope cl C X.env) fp) (G.pin p o) F0 ifs mt)
    (he : ∀ (s : Shared) (H : Hp) (C : Addr) (cl : List (Str × Addr)) (fp : List Addr) (p : Addr) (o : HO), DE (X.blk s H scope (compEnvC scope cl C X.env) fp) (G.pin p o) F0 elt me)
    (hs : ∀ x, foldedSetIterable iter X.env x = pure x := by intro _; rfl) : DF X G W (.ListComp elt [⟨tg, iter, ifs, 0⟩] scope pos) (M.lc ms g mt me (own.map (·.2))) :=
  imp (pe_lc hc hN hi ok (fun s H C cl fp => pin_g (hg s H C cl fp)) (fun s H C cl fp => pin_t (ht s H C cl fp)) (fun s H C cl fp => pin_d (he s H C cl fp)) hs) lc_imp
/-- the name of a data value -/
theorem ds_setLc {ms : M (List D)} {g : TgM} {scope : Scope} {y : Str} {py spos : Pos} (i : Nat) (own : List (Str × Nat)) (hc : X.calm = true) (hN : X.N.Nodup) (ok : BlkOk X.N X.env.scope scope own) (hi : DI X G W tg iter ms)
    (hg : ∀ (s : Shared) (H : Hp) (C : Addr) (cl : List (Str × Addr)) (fp : List Addr) (p : Addr) (o : HO), DGv (X.blk s H scope (compEnvC scope cl C X.env) fp) (G.pin p o) (own.map (·.2)) tg g)
    (ht : ∀ (s : Shared) (H : Hp) (C : Addr) (cl : List (Str × Addr)) (fp : List Addr) (p : Addr) (o : HO), DTs (X.blk s H scope (compEnvC scope cl C X.env) fp) (G.pin p o) F0 ifs mt)
    (he : ∀ (s : Shared) (H : Hp) (C : Addr) (cl : List (Str × Addr)) (fp : List Addr) (p : Addr) (o : HO), DE (X.blk s H scope (compEnvC scope cl C X.env) fp) (G.pin p o) F0 elt me)
    (hs : ∀ x, foldedSetIterable iter X.env x = pure x := by intro _; rfl) (hyl : X.env.scope.names.lookup y = some .local := by rfl) (hsw : swapsWith (.ListComp elt [⟨tg, iter, ifs, 0⟩] scope pos) (some (.Name y py)) spos.line X.env = pure true := by rfl) (hy : X.N[i]? = some y := by rfl) :
    DS X G W (.Assign [.Name y py] (.ListComp elt [⟨tg, iter, ifs, 0⟩] scope pos) spos) (S.setF (M.lc ms g mt me (own.map (·.2))) i) := by
  refine impS (ps_setLc (i := i) hc hN hy hyl hsw hi ok (fun s H C cl fp => pin_g (hg s H C cl fp)) (fun s H C cl fp => pin_t (ht s H C cl fp)) (fun s H C cl fp => pin_d (he s H C cl fp)) hs) ?_
  rintro E σ H ⟨ρ, f, r, R, hm, hp⟩
  refine lc_imp _ _ _ (tF_of R hm hp fun d ρ1 p H1 hk N x1 => ?_)
  split at hk
  · cases hk
  · rename_i hin
    cases hk
    obtain ⟨f', R', sub⟩ := N.put (i := i) (by simpa using hin)
    exact hp _ H1 f' R' fun a o hb e => ⟨fun z => (x1 a o hb e).1 (sub a z), (x1 a o hb e).2⟩
end
end DL
namespace DL
open PySem PySem.Spec PyProof.Rows L2 GenW

/-! ### a generator expression's code, under any and all -/
/-- its context: it runs under A, its frame is cenv's, below it stand X's frames -/
abbrev gx (X : Cx) (A : Around) (s : Shared) (H : Hp) (cenv : Env) (fp : List Addr) : Cx :=
  { X with A := A, s_0 := s, H_0 := H, env := cenv, outer := X.stack, stack := cenv :: X.stack, ex := fp, fn := fun _ => false, calm := true, pn := [], xe := fun _ _ => False }
abbrev gEnv (X : Cx) (scope : Scope) (C : Addr) (code : Value) : Env := genEnv scope (cloFrom X.env.cells scope.names []) C code builtinsNs X.env
section
variable {X : Cx} {pins : List (Addr × Obj)} {σ : L2.St} {H : Hp} {s s5 : Shared}
theorem gen_start {A' : Around} {scope : Scope} {own : List (Str × Nat)} {fp : List Addr} {C a : Addr} {code : Value} {og : Obj} {m : Str → Option Value} (I : Inv X pins σ H s) (ok : BlkOk X.N X.env.scope scope own) (hcell : ∀ y ∈ scope.names, y.2 ≠ .cell) (hN : X.N.Nodup)
    (hfp : ∀ b ∈ fp, FpOk X pins H b ∧ b < s.heap.objs.size) (hA : A'.handled = none) (hfr : A'.frames = some (gEnv X scope C code :: X.stack)) (kp : ∀ b o, s.heap.get? b = some o → s5.heap.get? b = some o) (hos : s5.os = s.os) (hb : AllBare s5.gens)
    (hn : s5.heap.Ns C m) (hC : s.heap.objs.size ≤ C) (ha : s.heap.objs.size ≤ a) (haC : a ≠ C) (hag : s5.heap.get? a = some og) (hog : ∀ v, og.data ≠ .cell v) :
    Inv (gx X A' s H (gEnv X scope C code) fp) [(a, og)] (L2.wipe σ (own.map (·.2))) H s5 := by
  have hfree : ∀ y ∈ scope.names, y.2 = .free → ∃ c, X.env.cells.lookup y.1 = some c := fun y hy e => by
    rcases ok.free y hy e with k | k
    · exact I.ok.has _ (.inl k)
    · exact I.ok.has _ (.inr k)
  generalize hcenv : gEnv X scope C code = cenv at hfr ⊢
  have hL : cenv.locals = C := by rw [← hcenv]; rfl
  have hcl : cenv.cells = cloFrom X.env.cells scope.names [] := by rw [← hcenv]; rfl
  have hsc : cenv.scope = scope := by rw [← hcenv]; rfl
  have cm : ∀ {y c}, (y, c) ∈ cloFrom X.env.cells scope.names [] → X.env.cells.lookup y = some c ∧ c < s.heap.objs.size ∧ (y, NameKind.free) ∈ scope.names := fun {y c} hm => by
    rcases cloFrom_mem hm with hm | ⟨h1, rfl⟩
    · cases hm
    · obtain ⟨c, hc⟩ := hfree _ h1 rfl
      rw [hc]
      obtain ⟨w, z⟩ := I.cell _ _ hc
      exact ⟨rfl, z.lt, h1⟩
  have mem : ∀ {y c}, cenv.cells.lookup y = some c → X.env.cells.lookup y = some c ∧ c < s.heap.objs.size := fun {y c} e => by
    rw [hcl] at e
    exact ⟨(cm (PySem.mem_of_lookup e)).1, (cm (PySem.mem_of_lookup e)).2.1⟩
  have look : ∀ {y}, scope.names.lookup y = some .free → ∃ c, cenv.cells.lookup y = some c ∧ X.env.cells.lookup y = some c := fun {y} hl => by
    have hy : (y, NameKind.free) ∈ scope.names := PySem.mem_of_lookup hl
    obtain ⟨c', e'⟩ := mem_lookup (cloFrom_has (cells := X.env.cells) (acc := []) hy)
    rw [← hcl] at e'
    exact ⟨c', e', (mem e').1⟩
  have kind : ∀ {y k}, cenv.scope.names.lookup y = some k → k = .local ∨ k = .cell ∨ k = .free → k ≠ .local → scope.names.lookup y = some .free := fun {y k} e hk hne => by
    rw [hsc] at e
    rcases hk with rfl | rfl | rfl
    · exact absurd rfl hne
    · exact absurd rfl (hcell _ (PySem.mem_of_lookup e))
    · exact e
  have ltC : ∀ {b}, b < s.heap.objs.size → b ≠ C := fun {b} h z => by rw [z] at h; exact absurd h (Nat.not_lt.mpr hC)
  have okB : (gx X A' s H cenv fp).Ok := by
    refine ⟨I.ok.mod, by show cenv.scope.kind = _; rw [hsc]; exact ok.kind, by show cenv.globals = _; rw [← hcenv]; exact I.ok.glob, by show cenv.builtins = _; rw [← hcenv]; rfl, by show s.heap.objs.size ≤ cenv.locals; rw [hL]; exact hC,
      fun y z c e1 e2 => I.ok.inj y z c (mem e1).1 (mem e2).1, fun y hy => ?_, fun y c z e => (by cases z), fun _ => hA, hfr, .inr ⟨rfl, by show cenv.frame = some cenv.locals; rw [← hcenv]; rfl⟩, fun b hb => ⟨?_, fun y c e z => ?_⟩, I.bs, Nat.le_trans I.ok.bsz I.sz, fun b o e hb => ?_, fun b hb z => ?_, I.stack, I.stkFree⟩
    · show ∃ c, cenv.cells.lookup y = some c
      have key : ∀ k, cenv.kindOf y = some k → (k = .cell ∨ k = .free) → ∃ c, cenv.cells.lookup y = some c := fun k hk hk' => by
        have e := kind (y := y) (k := k) hk (hk'.elim (fun z => .inr (.inl z)) fun z => .inr (.inr z)) (by rcases hk' with rfl | rfl <;> decide)
        obtain ⟨c, h1, _⟩ := look e
        exact ⟨c, h1⟩
      rcases hy with hy | hy
      · exact key _ hy (.inl rfl)
      · exact key _ hy (.inr rfl)
    · show b ≠ cenv.locals
      rw [hL]; exact ltC (hfp b hb).2
    · exact (hfp b hb).1.2.2.2.2.1 y c (mem e).1 z
    · rcases (hfp b hb).1.2.2.2.1 with z | z
      · exact I.ok.noex b o e z
      · exact absurd (Nat.lt_of_lt_of_le (Heap.lt_size e) (Nat.le_trans I.ok.bsz z)) (Nat.lt_irrefl _)
    · rcases List.mem_cons.mp (I.stkSub b z) with z | z
      · exact (hfp b hb).1.2.1 z
      · exact (hfp b hb).1.2.2.1 z
  refine ⟨okB, hos, hb, Un.kept kp, ⟨m, ?_, fun i y av e1 e2 e3 => ?_⟩, fun y c e => ?_, ?_, fun y c e => ?_, fun p hp => ?_, I.hok.kept kp, by rw [wipe_length]; exact I.len⟩
  · show Heap.Ns _ cenv.locals _
    rw [hL]
    exact hn
  · obtain ⟨e2, hne⟩ := wipe_some e2
    have key : ∀ k, cenv.scope.names.lookup y = some k → k = .local ∨ k = .cell ∨ k = .free → scope.names.lookup y = some .free ∧ cenv.kindOf y = some .free := fun k hk hk' => by
      have no : k ≠ .local := fun hh => by
        subst hh
        rw [hsc] at hk
        rcases ok.own _ (PySem.mem_of_lookup hk) (.inl rfl) with e' | e'
        · obtain ⟨p, hp, hpy⟩ := List.mem_map.mp e'
          have e3 := ok.ix p hp
          have : p.1 = y := hpy
          rw [this] at e3
          exact hne (List.mem_map.mpr ⟨p, hp, nodup_ix hN e3 e1⟩)
        · exact e' (List.mem_of_getElem? e1)
      have e := kind hk hk' no
      refine ⟨e, ?_⟩
      show cenv.scope.names.lookup y = _
      rw [hsc]; exact e
    have e3 : Vis cenv.scope y := e3
    have hfr2 : scope.names.lookup y = some .free ∧ cenv.kindOf y = some .free := by
      rcases e3 with e3 | e3 | e3
      · exact key _ e3 (.inl rfl)
      · exact key _ e3 (.inr (.inl rfl))
      · exact key _ e3 (.inr (.inr rfl))
    obtain ⟨m', hn', hl⟩ := I.loc
    have hvis : Vis X.env.scope y := (ok.free _ (PySem.mem_of_lookup hfr2.1) rfl).elim (fun k => .inr (.inl k)) (fun k => .inr (.inr k))
    obtain ⟨w, r, q⟩ := hl i y av e1 e2 hvis
    refine ⟨w, r, .inr ⟨.inr hfr2.2, ?_⟩⟩
    obtain ⟨c, h1, h2⟩ := look hfr2.1
    rcases q with ⟨k, _⟩ | ⟨_, c', e', z⟩
    · have k : X.env.scope.names.lookup y = some .local := k
      rcases ok.free _ (PySem.mem_of_lookup hfr2.1) rfl with k' | k' <;> rw [show X.env.scope.names.lookup y = _ from k'] at k <;> cases k
    · rw [h2] at e'; cases e'
      exact ⟨c, h1, z.keeps kp⟩
  · obtain ⟨w, z⟩ := I.cell y c (mem e).1
    exact ⟨w, z.keeps kp⟩
  · show H cenv.locals = none
    rw [hL]; exact I.hok.fresh hC
  · exact I.freeC y c (mem e).1
  · have e : p = (a, og) := by simpa using (show p ∈ ([] : List (Addr × Obj)) ++ [(a, og)] from hp)
    subst e
    refine ⟨hag, I.hok.fresh ha, ?_, fun z => ?_, hog⟩
    · show a ≠ cenv.locals
      rw [hL]; exact haC
    · have z : a ∈ frs X.stack := z
      obtain ⟨_, o, ho, _⟩ := I.stack.mem z
      exact absurd (Heap.lt_size ho) (Nat.not_lt.mpr ha)

/-- a turn's steps -/
def tGe (stop : Bool) (wi : TI) (P : Addr) (g : TG) (tt : TT) (te : TE) (vs : List Nat) : TE := fun σ H Q => wi σ H fun J H1 => TabAt H1 P ∧ ∀ H2, GxR.Tabbed P H1 H2 → ∃ W : Nat → Nat → Hp → Prop, (∃ m, W 0 m H2) ∧ ∀ i m H, W i m H →
  (J.stop i H ∧ Q (.bl (!stop)) H) ∨ (J.go i H ∧ ∃ Nx : Hp → Prop, (∀ H', Nx H' → ∃ m', m' < m ∧ W (i + 1) m' H') ∧ ∀ x H', J.yld i H x H' → g x (L2.wipe σ vs) H' fun σ2 H2 => L2.wipe σ2 vs = L2.wipe σ vs ∧ tt σ2 H2 fun b H3 =>
    if b = true then te σ2 H3 fun y H4 => ∃ t : Bool, y = .bl t ∧ (if t = stop then Q (.bl stop) H4 else Nx H4) else Nx H3)
/-- what is known between the turns -/
structure GAt (X : Cx) (s4 : Shared) (H4 : Hp) (fp : List Addr) (a : Addr) (g : Nat) (H : Hp) (s : Shared) : Prop where
  os : s.os = s4.os
  bare : AllBare s.gens
  un : Un (frs X.stack) fp H4 H s4.heap s.heap
  hok : HOk X.prog X.w H s.heap
  lim : s.heap.NoLimit
  gen : s.heap.IsGen a g
  nfp : ∀ b ∈ fp, H b = none
def gY (X : Cx) (s4 : Shared) (H4 : Hp) (fp : List Addr) (a : Addr) (g : Nat) (stop : Bool) (Q : VK) : Protocol := fun n s₀ v s kap => ∃ (t : Bool) (H : Hp), v = .bool t ∧ GAt X s4 H4 fp a g H s ∧
  (if t = stop then Q (.bl stop) H else ∀ s', s'.heap = s.heap → s'.os = s.os → AllBare s'.gens → kap (.send .none) s')
def gR (X : Cx) (s4 : Shared) (H4 : Hp) (fp : List Addr) (a : Addr) (g : Nat) (stop : Bool) (Q : VK) : GenEnd := fun n s₀ r s => ((r = .ok (.ret .none) ∨ r = .ok .next) ∧ ∃ H, GAt X s4 H4 fp a g H s ∧ Q (.bl (!stop)) H) ∨ ∃ e, r = .error e ∧ False
theorem seg_gen {B A' : Around} {scope : Scope} {fp : List Addr} {it a : Addr} {gn : Nat} {og : Obj} {H4 : Hp} {s4 : Shared} {cenv : Env} {elt tg iter : Expr} {ifs : List Expr} {pos : Pos} {J : It} {tn : Nat → Heap → Prop} {stop : Bool} {Q : VK} {g : TG} {tt : TT} {te : TE} {vs : List Nat} {W : Nat → Nat → Hp → Prop}
    (hov : B.over (.compLoop (.GeneratorExp elt [⟨tg, iter, ifs, 0⟩] scope pos) 0 (.ref it) .none cenv) [] = A') (hco : cenv.scope.isCoroutine = false) (T : Turn X.prog X.w X.K tg J fp it tn) (hgen : ∀ h : Heap, h.get? a = some og → h.IsGen a gn)
    (hafp : a ∉ fp)
    (pg : PG (gx X A' s4 H4 cenv fp) tg g) (pt : PTs (gx X A' s4 H4 cenv fp) ifs tt) (pe : PE (gx X A' s4 H4 cenv fp) elt te)
    (turn : ∀ i m H, W i m H → (J.stop i H ∧ Q (.bl (!stop)) H) ∨ (J.go i H ∧ ∃ Nx : Hp → Prop, (∀ H', Nx H' → ∃ m', m' < m ∧ W (i + 1) m' H') ∧ ∀ x H', J.yld i H x H' → g x (L2.wipe σ vs) H' fun σ2 H2 => L2.wipe σ2 vs = L2.wipe σ vs ∧ tt σ2 H2 fun b H3 =>
      if b = true then te σ2 H3 fun y H4 => ∃ t : Bool, y = .bl t ∧ (if t = stop then Q (.bl stop) H4 else Nx H4) else Nx H3)) :
    ∀ (m : Nat) (n i : Nat) (s₀ s : Shared) (H : Hp), m < n → Inv (gx X A' s4 H4 cenv fp) [(a, og)] (L2.wipe σ vs) H s → tn i s.heap → (∀ b ∈ fp, H b = none) → W i m H →
      Seg (model X.prog X.w) B (gR X s4 H4 fp a gn stop Q) (gY X s4 H4 fp a gn stop Q) n s₀ (.compLoop (.GeneratorExp elt [⟨tg, iter, ifs, 0⟩] scope pos) 0 (.ref it) .none cenv)
        ((model X.prog X.w).den (.compLoop (.GeneratorExp elt [⟨tg, iter, ifs, 0⟩] scope pos) 0 (.ref it) .none cenv)) [] s := by
  have stat : ∀ {σ' : L2.St} {H' : Hp} {s' : Shared}, Inv (gx X A' s4 H4 cenv fp) [(a, og)] σ' H' s' → (∀ b ∈ fp, H' b = none) → ∀ b ∈ fp, FpOk (gx X A' s4 H4 cenv fp) [(a, og)] H' b := fun {σ' H' s'} I' hn b hb =>
    ⟨hn b hb, (I'.ok.exf b hb).1, I'.ok.exfs b hb, .inl hb, fun x c e => (I'.ok.exf b hb).2 x c e, fun p hp => by
      have e : p = (a, og) := by simpa using (show p ∈ ([] : List (Addr × Obj)) ++ [(a, og)] from hp)
      subst e
      exact fun z => hafp (by rw [show a = b from z]; exact hb)⟩
  have gat : ∀ {σ' : L2.St} {H' : Hp} {s' : Shared}, Inv (gx X A' s4 H4 cenv fp) [(a, og)] σ' H' s' → (∀ b ∈ fp, H' b = none) → GAt X s4 H4 fp a gn H' s' := fun {σ' H' s'} I' hn =>
    ⟨I'.os, I'.bare, I'.base, I'.hok, I'.nolimit, hgen _ (I'.pin (a, og) (List.mem_append_right _ (by simp))).1, hn⟩
  intro m
  induction m using Nat.strongRecOn with
  | _ m ih =>
    intro n i s₀ s H hmn I st hn w0
    show Seg _ B _ _ _ s₀ _ ((compTurn (.GeneratorExp elt [⟨tg, iter, ifs, 0⟩] scope pos) 0 (.ref it) .none cenv).onRaise (leaving cenv)) [] s
    rw [compTurn_gen, Sem.onRaise_eq_wrap]
    refine seg_bind_wrap (wpAny_standAt ?_)
    rcases turn i m H w0 with ⟨stp, qq⟩ | ⟨go, Nx, hNx, step⟩
    · have td := T.done (gx X A' s4 H4 cenv fp) rfl rfl rfl rfl i [(a, og)] s _ H (fun _ _ => False) I (stat I hn) st stp
      refine seg_bind_wrap ?_
      rw [hov]
      refine thnF td fun r s6 ⟨hr, I6⟩ => ?_
      subst hr
      exact seg_end (.ok .next) (.inl ⟨.inr rfl, H, gat I6 hn, qq⟩)
    · have ti := T.item (gx X A' s4 H4 cenv fp) rfl rfl rfl rfl i [(a, og)] s _ H (fun _ _ => False) I (stat I hn) st go
      refine seg_bind_wrap ?_
      rw [hov]
      refine thnF ti fun r s6 ⟨u, hr, h6⟩ => ?_
      subst hr
      refine seg_bind_wrap ?_
      rw [hov]
      refine thnF h6 fun _ s7 ⟨x, H7, I7, r7, y7, st7, n7⟩ => ?_
      have I7' := I7.pinned (stat I7 n7) (T.obj _ _ st7)
      refine seg_bind_wrap ?_
      rw [hov]
      refine thnF (pg.run _ s7 _ H7 x u _ I7' r7 (step x H7 y7)) fun _ s8 ⟨σ8, H8, I8, hw8, q8⟩ => ?_
      refine seg_bind_wrap ?_
      rw [hov]
      refine thnF (pt.run _ s8 σ8 H8 _ I8 q8) fun b s9 ⟨H9, I9, q9⟩ => ?_
      -- the turn's end
      have fin : ∀ {s' : Shared} {H' : Hp}, Inv (gx X A' s4 H4 cenv fp) ([(a, og)] ++ pinsAt fp s7.heap) σ8 H' s' → Inv (gx X A' s4 H4 cenv fp) [(a, og)] (L2.wipe σ vs) H' s' ∧ tn (i + 1) s'.heap ∧ ∀ b ∈ fp, H' b = none := fun {s' H'} I' => by
        have pin' : ∀ b ∈ fp, ∀ o, s7.heap.get? b = some o → s'.heap.get? b = some o ∧ H' b = none := fun b hb o e =>
          let z := I'.pin (b, o) (List.mem_append_right _ (List.mem_append_right _ (mem_pinsAt hb e)))
          ⟨z.1, z.2.1⟩
        have hl : (L2.wipe σ vs).length = σ8.length := by rw [← hw8, wipe_length]
        refine ⟨(I'.unpinned (pins := [(a, og)])).weak hl (fun j v e => ?_), T.keep _ _ _ st7 fun b hb o e => (pin' b hb o e).1, fun b hb => ?_⟩
        · rw [← hw8] at e
          exact (wipe_some e).1
        · obtain ⟨o, e, _⟩ := T.obj _ _ st7 b hb
          exact (pin' b hb o e).2
      cases b with
      | false =>
        simp only [Bool.false_eq_true, if_false] at q9 ⊢
        obtain ⟨I10, st10, n10⟩ := fin I9
        obtain ⟨m', hm, w'⟩ := hNx _ q9
        exact seg_again rfl (ih m' hm n (i + 1) s₀ s9 H9 (by omega) I10 st10 n10 w')
      | true =>
        simp only [if_true] at q9 ⊢
        have hy : ∀ v, yieldOut cenv v = yieldValue v := fun v => by simp only [yieldOut, hco, Bool.false_eq_true, if_false]
        simp only [hy]
        rw [Sem.bind_eq_wrap', Sem.bind_eq_wrap', Sem.wrap_wrap, Sem.wrap_wrap]
        refine seg_wrap ?_
        rw [hov]
        refine thnF (pe.run _ s9 σ8 H9 _ I9 q9) fun z s10 ⟨yv, H10, I10, r10, t, et, nx⟩ => ?_
        subst et
        cases r10
        obtain ⟨I11, st11, n11⟩ := fin I10
        obtain ⟨n', rfl⟩ : ∃ n', n = n' + 1 := ⟨n - 1, by omega⟩
        refine seg_at (seg_yield rfl rfl rfl ⟨t, H10, rfl, gat I11 n11, ?_⟩)
        by_cases ht : t = stop
        · rw [if_pos ht] at nx ⊢
          exact nx
        · rw [if_neg ht] at nx ⊢
          intro s' hh ho hb
          obtain ⟨m', hm, w'⟩ := hNx _ nx
          have I12 : Inv (gx X A' s4 H4 cenv fp) [(a, og)] (L2.wipe σ vs) H10 s' := I11.call' ho (Un.kept fun b o e => by rw [hh]; exact e) (by rw [hh]; exact I11.hok) hb (ch := []) fun b hb => absurd hb (by simp)
          exact seg_again rfl (ih m' hm n' (i + 1) s' s' H10 (by omega) I12 (by rw [hh]; exact st11) n11 w')

/-- all(g) -/
theorem all_loop {A : Around} {R : Result → Shared → Prop} {a : Addr} {gn : Nat} {H4 : Hp} {s4 : Shared} {fp : List Addr} {Q : VK} (hh : A.handled = none) (hd : A.depth < recursionLimit)
    (hR : ∀ t H' s', s'.os = s4.os → AllBare s'.gens → Un (frs X.stack) fp H4 H' s4.heap s'.heap → HOk X.prog X.w H' s'.heap → Q (.bl t) H' → R (.ok (.ret (.bool t))) s') :
    ∀ (m : Nat) (s : Shared), s.heap.IsGen a gn → s.heap.NoLimit → (∃ gs, s.gens[gn]? = some gs ∧ gs.Goes (model X.prog X.w) A.in1.in1 (gR X s4 H4 fp a gn false Q) (gY X s4 H4 fp a gn false Q) m (.send .none) (s.setGen gn .running)) →
      codeAny (model X.prog X.w) A (.builtin "all.loop" ⟨[.ref a], []⟩) R s := by
  intro m
  induction m with
  | zero =>
    intro s hg hl ⟨gs, hgs, hgo⟩
    refine codeAny_builtin F.entry_all_loop ?_
    rw [Around.under_plainId F.plain_all_loop _]
    show wpAny _ A.in1 (pyNext (.ref a) >>= _) _ _ s
    refine wpAny_bind (next_genG (A := A.in1) (F := fun _ _ s => ∃ H, GAt X s4 H4 fp a gn H s ∧ Q (.bl (!false)) H) (Er := fun _ _ => False) hh hl hd hg hgs hgo (fun v s₁ gs' hbare hv => ?_) (fun s₁ hp h' hk => ?_) fun e s₁ he => he.elim)
    · obtain ⟨t, H, rfl, ga, hv⟩ := hv
      refine wpAny_bind (wpAny_holding (wpAny_truthy_bool ?_))
      refine wpAny_bind (wpAny_letGo ?_)
      cases t with
      | true =>
        rw [if_neg (by decide)] at hv
        exact False.elim (hv s₁ rfl rfl ga.bare)
      | false =>
        rw [if_pos rfl] at hv
        simp only [Bool.false_eq_true, if_false]
        refine wpAny_bind (wpAny_rule (wpAny_pure ?_))
        exact hR false H _ ga.os (allBare_setGen ga.bare hbare) ga.un ga.hok hv
    · obtain ⟨H, ga, hq⟩ := hp
      refine wpAny_bind (wpAny_rule (wpAny_pure ?_))
      exact hR true H _ ga.os (allBare_setGen ga.bare rfl) (ga.un.trans (Un.kept hk)) (ga.hok.kept hk) hq
  | succ m ih =>
    intro s hg hl ⟨gs, hgs, hgo⟩
    have hgl : gn < s.gens.size := (Array.getElem?_eq_some_iff.mp hgs).1
    refine codeAny_builtin F.entry_all_loop ?_
    rw [Around.under_plainId F.plain_all_loop _]
    show wpAny _ A.in1 (pyNext (.ref a) >>= _) _ _ s
    refine wpAny_bind (wpAny_gsz (n := gn + 1) hgl (next_genG (A := A.in1) (F := fun _ _ s => ∃ H, GAt X s4 H4 fp a gn H s ∧ Q (.bl (!false)) H) (Er := fun _ _ => False) hh hl hd hg hgs hgo (fun v s₁ gs' hbare hv => ?_) (fun s₁ hp h' hk => ?_) fun e s₁ he => he.elim))
    · intro hsz
      obtain ⟨t, H, rfl, ga, hv⟩ := hv
      refine wpAny_bind (wpAny_holding (wpAny_truthy_bool ?_))
      refine wpAny_bind (wpAny_letGo ?_)
      cases t with
      | true =>
        rw [if_neg (by decide)] at hv
        simp only [if_true]
        refine wpAny_pure ⟨plainId_quiet F.plain_all_loop _, ?_⟩
        have hsz1 : gn < s₁.gens.size := by
          have q : (s₁.setGen gn gs').gens.size = s₁.gens.size := setGen_size _ _ _
          have hsz' : gn + 1 ≤ (s₁.setGen gn gs').gens.size := hsz
          omega
        exact ih (s₁.setGen gn gs') ga.gen ga.lim ⟨gs', setGen_at hsz1, hv _ rfl rfl (allBare_setGen (s := s₁.setGen gn gs') (allBare_setGen ga.bare hbare) rfl)⟩
      | false =>
        rw [if_pos rfl] at hv
        simp only [Bool.false_eq_true, if_false]
        refine wpAny_bind (wpAny_rule (wpAny_pure ?_))
        exact hR false H _ ga.os (allBare_setGen ga.bare hbare) ga.un ga.hok hv
    · intro hsz
      obtain ⟨H, ga, hq⟩ := hp
      refine wpAny_bind (wpAny_rule (wpAny_pure ?_))
      exact hR true H _ ga.os (allBare_setGen ga.bare rfl) (ga.un.trans (Un.kept hk)) (ga.hok.kept hk) hq
/-- any(g) -/
theorem any_loop {A : Around} {R : Result → Shared → Prop} {a : Addr} {gn : Nat} {H4 : Hp} {s4 : Shared} {fp : List Addr} {Q : VK} (hh : A.handled = none) (hd : A.depth < recursionLimit)
    (hR : ∀ t H' s', s'.os = s4.os → AllBare s'.gens → Un (frs X.stack) fp H4 H' s4.heap s'.heap → HOk X.prog X.w H' s'.heap → Q (.bl t) H' → R (.ok (.ret (.bool t))) s') :
    ∀ (m : Nat) (s : Shared), s.heap.IsGen a gn → s.heap.NoLimit → (∃ gs, s.gens[gn]? = some gs ∧ gs.Goes (model X.prog X.w) A.in1.in1 (gR X s4 H4 fp a gn true Q) (gY X s4 H4 fp a gn true Q) m (.send .none) (s.setGen gn .running)) →
      codeAny (model X.prog X.w) A (.builtin "any.loop" ⟨[.ref a], []⟩) R s := by
  intro m
  induction m with
  | zero =>
    intro s hg hl ⟨gs, hgs, hgo⟩
    refine codeAny_builtin F.entry_any_loop ?_
    rw [Around.under_plainId F.plain_any_loop _]
    show wpAny _ A.in1 (pyNext (.ref a) >>= _) _ _ s
    refine wpAny_bind (next_genG (A := A.in1) (F := fun _ _ s => ∃ H, GAt X s4 H4 fp a gn H s ∧ Q (.bl (!true)) H) (Er := fun _ _ => False) hh hl hd hg hgs hgo (fun v s₁ gs' hbare hv => ?_) (fun s₁ hp h' hk => ?_) fun e s₁ he => he.elim)
    · obtain ⟨t, H, rfl, ga, hv⟩ := hv
      refine wpAny_bind (wpAny_holding (wpAny_truthy_bool ?_))
      refine wpAny_bind (wpAny_letGo ?_)
      cases t with
      | false =>
        rw [if_neg (by decide)] at hv
        exact False.elim (hv s₁ rfl rfl ga.bare)
      | true =>
        rw [if_pos rfl] at hv
        simp only [if_true]
        refine wpAny_bind (wpAny_rule (wpAny_pure ?_))
        exact hR true H _ ga.os (allBare_setGen ga.bare hbare) ga.un ga.hok hv
    · obtain ⟨H, ga, hq⟩ := hp
      refine wpAny_bind (wpAny_rule (wpAny_pure ?_))
      exact hR false H _ ga.os (allBare_setGen ga.bare rfl) (ga.un.trans (Un.kept hk)) (ga.hok.kept hk) hq
  | succ m ih =>
    intro s hg hl ⟨gs, hgs, hgo⟩
    have hgl : gn < s.gens.size := (Array.getElem?_eq_some_iff.mp hgs).1
    refine codeAny_builtin F.entry_any_loop ?_
    rw [Around.under_plainId F.plain_any_loop _]
    show wpAny _ A.in1 (pyNext (.ref a) >>= _) _ _ s
    refine wpAny_bind (wpAny_gsz (n := gn + 1) hgl (next_genG (A := A.in1) (F := fun _ _ s => ∃ H, GAt X s4 H4 fp a gn H s ∧ Q (.bl (!true)) H) (Er := fun _ _ => False) hh hl hd hg hgs hgo (fun v s₁ gs' hbare hv => ?_) (fun s₁ hp h' hk => ?_) fun e s₁ he => he.elim))
    · intro hsz
      obtain ⟨t, H, rfl, ga, hv⟩ := hv
      refine wpAny_bind (wpAny_holding (wpAny_truthy_bool ?_))
      refine wpAny_bind (wpAny_letGo ?_)
      cases t with
      | false =>
        rw [if_neg (by decide)] at hv
        simp only [Bool.false_eq_true, if_false]
        refine wpAny_pure ⟨plainId_quiet F.plain_any_loop _, ?_⟩
        have hsz1 : gn < s₁.gens.size := by
          have q : (s₁.setGen gn gs').gens.size = s₁.gens.size := setGen_size _ _ _
          have hsz' : gn + 1 ≤ (s₁.setGen gn gs').gens.size := hsz
          omega
        exact ih (s₁.setGen gn gs') ga.gen ga.lim ⟨gs', setGen_at hsz1, hv _ rfl rfl (allBare_setGen (s := s₁.setGen gn gs') (allBare_setGen ga.bare hbare) rfl)⟩
      | true =>
        rw [if_pos rfl] at hv
        simp only [if_true]
        refine wpAny_bind (wpAny_rule (wpAny_pure ?_))
        exact hR true H _ ga.os (allBare_setGen ga.bare hbare) ga.un ga.hok hv
    · intro hsz
      obtain ⟨H, ga, hq⟩ := hp
      refine wpAny_bind (wpAny_rule (wpAny_pure ?_))
      exact hR false H _ ga.os (allBare_setGen ga.bare rfl) (ga.un.trans (Un.kept hk)) (ga.hok.kept hk) hq

/-- the generator stands, not yet begun -/
structure GNew (X : Cx) (s4 : Shared) (H4 : Hp) (fp : List Addr) (a : Addr) (g : Nat) (stop : Bool) (Q : VK) (m : Nat) (s : Shared) : Prop where
  gen : s.heap.IsGen a g
  lim : s.heap.NoLimit
  goes : ∃ gs, s.gens[g]? = some gs ∧ gs.Goes (model X.prog X.w) X.A.in1.in1 (gR X s4 H4 fp a g stop Q) (gY X s4 H4 fp a g stop Q) m (.send .none) (s.setGen g .running)
theorem call_all_gen {s4 s : Shared} {H4 : Hp} {fp : List Addr} {a : Addr} {g : Nat} {Q : VK} {m : Nat} {Q' : Value → Shared → Prop} {E : Value → Shared → Prop} (h : GNew X s4 H4 fp a g false Q m s) (hh : X.A.handled = none) (hd : X.A.depth < recursionLimit)
    (hQ : ∀ t H' s', s'.os = s4.os → AllBare s'.gens → Un (frs X.stack) fp H4 H' s4.heap s'.heap → HOk X.prog X.w H' s'.heap → Q (.bl t) H' → Q' (.bool t) s') : wpAny (model X.prog X.w) X.A (call (.builtin "all") [.ref a]) Q' E s := by
  refine call_function_tree F.kind_all F.plain_all F.entry_all (F.args_all1 _) ?_
  unfold Builtin.«all»
  refine wpAny_bind (m := oneArg "all" _) (wpAny_pure ?_)
  refine wpAny_bind (wpAny_pyIter_gen h.gen ?_)
  exact wpAny_pure ⟨plainId_quiet F.plain_all_loop _, all_loop (A := X.A) hh hd (fun t H' s' q1 q2 q3 q4 q5 => hQ t H' s' q1 q2 q3 q4 q5) m s h.gen h.lim h.goes⟩
theorem call_any_gen {s4 s : Shared} {H4 : Hp} {fp : List Addr} {a : Addr} {g : Nat} {Q : VK} {m : Nat} {Q' : Value → Shared → Prop} {E : Value → Shared → Prop} (h : GNew X s4 H4 fp a g true Q m s) (hh : X.A.handled = none) (hd : X.A.depth < recursionLimit)
    (hQ : ∀ t H' s', s'.os = s4.os → AllBare s'.gens → Un (frs X.stack) fp H4 H' s4.heap s'.heap → HOk X.prog X.w H' s'.heap → Q (.bl t) H' → Q' (.bool t) s') : wpAny (model X.prog X.w) X.A (call (.builtin "any") [.ref a]) Q' E s := by
  refine call_function_tree F.kind_any F.plain_any F.entry_any (F.args_any1 _) ?_
  unfold Builtin.«any»
  refine wpAny_bind (m := oneArg "any" _) (wpAny_pure ?_)
  refine wpAny_bind (wpAny_pyIter_gen h.gen ?_)
  exact wpAny_pure ⟨plainId_quiet F.plain_any_loop _, any_loop (A := X.A) hh hd (fun t H' s' q1 q2 q3 q4 q5 => hQ t H' s' q1 q2 q3 q4 q5) m s h.gen h.lim h.goes⟩

theorem room_gen {k : Nat} {A : Around} (hr : Room (k + 1) A) {elt tg iter : Expr} {ifs : List Expr} {scope : Scope} {pos : Pos} {it acc : Value} {cenv : Env} : Room k (A.in1.in1.over (.compLoop (.GeneratorExp elt [⟨tg, iter, ifs, 0⟩] scope pos) 0 it acc cenv) []) := by
  have h1 : (A.in1.in1.over (.compLoop (.GeneratorExp elt [⟨tg, iter, ifs, 0⟩] scope pos) 0 it acc cenv) []).depth ≤ A.depth + 1 := Nat.le_of_eq rfl
  have h2 : (A.in1.in1.over (.compLoop (.GeneratorExp elt [⟨tg, iter, ifs, 0⟩] scope pos) 0 it acc cenv) []).units ≤ A.units + 5 := Nat.le_of_eq rfl
  exact ⟨hr.hd, by have := hr.dp; omega, by have := hr.un; omega⟩
theorem gen_make {c P : Addr} {k : Nat} {elt tg iter : Expr} {ifs : List Expr} {scope : Scope} {own : List (Str × Nat)} {gpos : Pos} {stop : Bool} {wi : TI} {g : TG} {tt : TT} {te : TE} {Q : VK} {Q' : Value → Shared → Prop}
    (hr : Room (k + 1) X.A) (TB : GxR.TabB X.base X.mg c P) (hcode : X.env.code = .ref c) (ok : BlkOk X.N X.env.scope scope own) (hN : X.N.Nodup) (hco : scope.isCoroutine = false) (hcell : ∀ y ∈ scope.names, y.2 ≠ .cell) (hdot : scope.names.lookup (".0" : Str) = some NameKind.local)
    (hi : PI X tg iter wi)
    (hg : ∀ (A' : Around) (s : Shared) (H : Hp) (C : Addr) (code : Value) (fp : List Addr), Room k A' → PG (gx X A' s H (gEnv X scope C code) fp) tg g)
    (ht : ∀ (A' : Around) (s : Shared) (H : Hp) (C : Addr) (code : Value) (fp : List Addr), Room k A' → PTs (gx X A' s H (gEnv X scope C code) fp) ifs tt)
    (he : ∀ (A' : Around) (s : Shared) (H : Hp) (C : Addr) (code : Value) (fp : List Addr), Room k A' → PE (gx X A' s H (gEnv X scope C code) fp) elt te)
    (hs : ∀ v, genFold iter X.env v = pure v) (I : Inv X pins σ H s) (h : tGe stop wi P g tt te (own.map (·.2)) σ H Q)
    (hQ : ∀ s4 H4 fp a gn m s5, Inv X pins σ H4 s4 → (∀ b ∈ fp, FpOk X pins H4 b) → GNew X s4 H4 fp a gn stop Q m s5 → Q' (.ref a) s5) :
    wpAny (model X.prog X.w) X.A (eval (.GeneratorExp elt [⟨tg, iter, ifs, 0⟩] scope gpos) X.env) Q' X.xe s := by
  have hfree : ∀ y ∈ scope.names, y.2 = .free → ∃ c, X.env.cells.lookup y.1 = some c := fun y hy e => by
    rcases ok.free y hy e with k | k
    · exact I.ok.has _ (.inl k)
    · exact I.ok.has _ (.inr k)
  refine wpAny_GeneratorExp_make hco (closure_ok hfree) hcell hdot ok.kind (by have := hr.dp; omega) ?_ hs
  refine thn (hi.run pins s σ H _ I h) fun xv s1 hx => thn hx fun itv s2 h2 => ?_
  obtain ⟨it, fp, tn, J, H2, e, I2, T, st2, f2, tabP, q⟩ := h2
  subst e
  obtain ⟨ps, hP, ht0⟩ := tabP
  have hPs : s2.heap.get? P = some { cls := .none, data := .fields ps } := I2.hok P _ hP
  have cd : PySem.W.CodeHd s2.heap c P := TB.code.keeps fun b u e => I2.bk b u e
  have cont : ∀ (code : Value) (h3 : Heap) (tk : Nat) (ps' : Array Value), Heap.ExtBut P s2.heap h3 → s2.heap.objs.size ≤ h3.objs.size → h3.get? P = some { cls := .none, data := .fields ps' } → (∃ more, ps' = ps ++ more) → TriplesOk ps'.toList →
      wpAny (model X.prog X.w) X.A (builtinsFor X.env.globals X.env.builtins) (fun bi s₄ => ∀ h', h'.Ns s₄.heap.objs.size (fun y => if y = ".0" then some (.ref it) else none) → Heap.SameBut s₄.heap.objs.size (s₄.heap.push { cls := .type "frame", data := .dict #[] }) h' →
          Q' (.ref h'.objs.size) { s₄ with
            gens := s₄.gens.push (.fresh (.compStart (.GeneratorExp elt [⟨tg, iter, ifs, 0⟩] scope gpos) 0 (.ref it) .none (genEnv scope (cloFrom X.env.cells scope.names []) s₄.heap.objs.size code bi X.env))),
            toks := s₄.toks + 1 + 1 + 1,
            heap := h'.push { cls := .type "generator", data := .fields #[.int s₄.gens.size 0, .str "<genexpr>" (s₄.toks + 1), .str (X.env.qual ++ "<genexpr>") (s₄.toks + 1 + 1)] } }) X.xe { s2 with heap := h3, toks := tk } := by
    intro code h3 tk ps' hx hsz hP3 hmore ht3
    obtain ⟨bm, ob, e1, e2, e3, e4, e5, e6, e7, e8⟩ := TB.bm
    have keep3 : ∀ b u, b ≠ P → s2.heap.get? b = some u → h3.get? b = some u := fun b u hb e => hx b u hb e
    refine wpAny_builtinsFor (m := X.mg) (by rw [I2.ok.glob]; exact ((I2.mod.glob.keeps I2.bk)).extBut hx TB.gP) e1 e2 (keep3 _ _ e4 (I2.bk _ _ e5)) e6 e7 e8 ?_
    obtain ⟨more, em⟩ := hmore
    have J4 : Inv X pins σ (L2.upd H2 P (.tbl (ps ++ more))) { s2 with heap := h3, toks := tk } := GxR.inv_tab (more := more) (h' := h3) (g' := s2.gens) (d' := s2.drawn) (t' := tk) I2 hP keep3 (by rw [← em]; exact hP3) I2.bare
    have tb : GxR.Tabbed P H2 (L2.upd H2 P (.tbl (ps ++ more))) := ⟨⟨ps ++ more, upd_same, by rw [← em]; exact ht3⟩, fun b hb => upd_ne hb⟩
    obtain ⟨W, ⟨m0, w0⟩, turn⟩ := q _ tb
    generalize hs4 : ({ s2 with heap := h3, toks := tk } : Shared) = s4 at J4 ⊢
    have hh4 : s4.heap = h3 := by rw [← hs4]
    generalize hH4 : L2.upd H2 P (.tbl (ps ++ more)) = H4 at J4 w0
    have nP : ∀ b ∈ fp, b ≠ P := fun b hb z => by
      have := (f2 b hb).1
      rw [z, hP] at this
      cases this
    have f4 : ∀ b ∈ fp, FpOk X pins H4 b ∧ b < s4.heap.objs.size := fun b hb => by
      obtain ⟨o, e, _⟩ := T.obj _ _ st2 b hb
      refine ⟨⟨?_, (f2 b hb).2⟩, ?_⟩
      · rw [← hH4, upd_ne (nP b hb)]
        exact (f2 b hb).1
      · rw [hh4]
        exact Nat.lt_of_lt_of_le (Heap.lt_size e) hsz
    have st4 : tn 0 s4.heap := T.keep _ _ _ st2 fun b hb o e => by rw [hh4]; exact keep3 b o (nP b hb) e
    intro h' hn' hs'
    have hsz' : h'.objs.size = s4.heap.objs.size + 1 := by rw [hs'.1, Heap.size_push]
    have keep' : ∀ b o, s4.heap.get? b = some o → h'.get? b = some o := fun b o e => hs'.extBut b o (Nat.ne_of_lt (Heap.lt_size e)) (Heap.get?_push_of_some _ e)
    generalize hog : ({ cls := .type "generator", data := .fields #[.int s4.gens.size 0, .str "<genexpr>" (s4.toks + 1), .str (X.env.qual ++ "<genexpr>") (s4.toks + 1 + 1)] } : Obj) = og
    have hgen : ∀ h : Heap, h.get? h'.objs.size = some og → h.IsGen h'.objs.size s4.gens.size := fun h e => by
      subst hog
      exact ⟨_, _, _, e, rfl, rfl, rfl⟩
    have hogc : ∀ v, og.data ≠ .cell v := fun v z => by
      subst hog
      cases z
    have ogp : (h'.push og).get? h'.objs.size = some og := by
      subst hog
      exact Heap.get?_push_size _ rfl
    have keep5 : ∀ b o, s4.heap.get? b = some o → (h'.push og).get? b = some o := fun b o e => Heap.get?_push_of_some _ (keep' b o e)
    refine hQ s4 H4 fp h'.objs.size s4.gens.size (m0 + 1) _ J4 (fun b hb => (f4 b hb).1) ⟨hgen _ ogp, J4.nolimit.keeps keep5, _, Array.getElem?_push_size .., rfl, ?_⟩
    have fr1 : X.A.frames = some X.stack := J4.ok.frames
    have bare5 : AllBare (s4.gens.push (.fresh (.compStart (.GeneratorExp elt [⟨tg, iter, ifs, 0⟩] scope gpos) 0 (.ref it) .none (gEnv X scope s4.heap.objs.size code)))) := J4.bare.push rfl
    generalize hs5 : ({ s4 with gens := s4.gens.push (.fresh (.compStart (.GeneratorExp elt [⟨tg, iter, ifs, 0⟩] scope gpos) 0 (.ref it) .none (gEnv X scope s4.heap.objs.size code))), toks := s4.toks + 1 + 1 + 1, heap := h'.push og } : Shared) = s5
    show Seg _ X.A.in1.in1 _ _ (m0 + 1) (s5.setGen s4.gens.size .running) _ _ [] (s5.setGen s4.gens.size .running)
    have h5 : s5.heap = h'.push og := by rw [← hs5]
    have b5 : AllBare (s5.setGen s4.gens.size .running).gens := allBare_setGen (by rw [← hs5]; exact bare5) rfl
    have hA' : Room k (X.A.in1.in1.over (.compLoop (.GeneratorExp elt [⟨tg, iter, ifs, 0⟩] scope gpos) 0 (.ref it) .none (gEnv X scope s4.heap.objs.size code)) []) := room_gen hr
    have I5 := gen_start (X := X) (A' := X.A.in1.in1.over (.compLoop (.GeneratorExp elt [⟨tg, iter, ifs, 0⟩] scope gpos) 0 (.ref it) .none (gEnv X scope s4.heap.objs.size code)) []) (s5 := s5.setGen s4.gens.size .running) (code := code) (og := og) (a := h'.objs.size) (C := s4.heap.objs.size)
      J4 ok hcell hN f4 hA'.hd (congrArg (fun x : Option (List Env) => x.map ((gEnv X scope s4.heap.objs.size code) :: ·)) fr1) (fun b o e => by show s5.heap.get? b = _; rw [h5]; exact keep5 b o e) (by rw [← hs5]; rfl) b5
      (by show s5.heap.Ns _ _; rw [h5]; exact hn'.push _) (Nat.le_refl _) (by rw [hsz']; exact Nat.le_succ _) (by rw [hsz']; exact Nat.succ_ne_self _) (by show s5.heap.get? _ = _; rw [h5]; exact ogp) hogc
    have st5 : tn 0 (s5.setGen s4.gens.size .running).heap := T.keep _ _ _ st4 fun b hb o e => by show s5.heap.get? b = _; rw [h5]; exact keep5 b o e
    have loop := seg_gen (X := X) (B := X.A.in1.in1) (pos := gpos) (elt := elt) (iter := iter) (s4 := s4) (H4 := H4) (fp := fp) (gn := s4.gens.size) (a := h'.objs.size) (og := og) (stop := stop) (Q := Q) (vs := own.map (·.2)) (W := W) (cenv := gEnv X scope s4.heap.objs.size code) rfl hco T hgen
      (fun hm => by have h9 : h'.objs.size < s4.heap.objs.size := (f4 _ hm).2; rw [hsz'] at h9; exact absurd h9 (Nat.not_lt.mpr (Nat.le_succ _))) (hg _ s4 H4 _ _ fp hA') (ht _ s4 H4 _ _ fp hA') (he _ s4 H4 _ _ fp hA') turn m0 (m0 + 1) 0 (s5.setGen s4.gens.size .running) (s5.setGen s4.gens.size .running) H4 (Nat.lt_succ_self _) I5 st5 (fun b hb => (f4 b hb).1.1) w0
    show Seg _ X.A.in1.in1 _ _ _ _ _ ((compStart (.GeneratorExp elt [⟨tg, iter, ifs, 0⟩] scope gpos) 0 (.ref it) .none (gEnv X scope s4.heap.objs.size code)).onRaise (leaving (gEnv X scope s4.heap.objs.size code))) [] _
    unfold compStart
    rw [Sem.onRaise_eq_wrap]
    show Seg _ X.A.in1.in1 _ _ _ _ _ ((ask >>= _).wrap _ _ _ _) [] _
    refine seg_bind_wrap (wpAny_askSetting ?_)
    split
    · exact seg_again rfl loop
    · first
        | exact seg_bind_wrap (wpAny_rule (seg_bind_wrap (wpAny_standAt (seg_bind_wrap (T.self _ 0 _ _ _ st5 (seg_again rfl loop))))))
        | (refine seg_bind_wrap (wpAny_rule ?_); show Seg _ X.A.in1.in1 _ _ _ _ _ ((standAt iter.pos >>= _).wrap _ _ _ _) [] _; exact seg_bind_wrap (wpAny_standAt (seg_bind_wrap (T.self _ 0 _ _ _ st5 (seg_again rfl loop)))))
  refine ⟨I2.nolimit, ?_⟩
  cases hf : codeAmong gpos ps.toList with
  | none =>
    refine wpAny_genexprCodeX hcode (cd.code hPs ht0) (cd.tab hPs) hf fun c' h' tk hx hge hlt hco' _ htab' _ => ?_
    obtain ⟨o1, vs, f1, tf, fl, tg, inF, tx, tt, op, _, _, _, _, _, _, _, _, _, htr, _⟩ := hco'
    exact cont _ h' tk _ hx (Nat.le_trans hge (Nat.le_of_lt hlt)) htab'.2 ⟨_, rfl⟩ htr
  | some cv =>
    refine wpAny_genexprCode_hit hcode (cd.code hPs ht0) hf ?_
    exact cont cv s2.heap s2.toks ps (Heap.ExtBut.refl _ _) (Nat.le_refl _) hPs ⟨#[], by simp⟩ ht0

section
variable {c P : Addr} {k : Nat} {elt tg iter : Expr} {ifs : List Expr} {scope : Scope} {own : List (Str × Nat)} {p pos gpos : Pos} {wi : TI} {g : TG} {tt : TT} {te : TE}
theorem pe_allG (hc : X.calm = true) (hr : Room (k + 1) X.A) (TB : GxR.TabB X.base X.mg c P) (hcode : X.env.code = .ref c) (ok : BlkOk X.N X.env.scope scope own) (hN : X.N.Nodup) (hco : scope.isCoroutine = false) (hcell : ∀ y ∈ scope.names, y.2 ≠ .cell) (hdot : scope.names.lookup (".0" : Str) = some NameKind.local)
    (hgl : Gl X "all") (hm : X.mg "all" = none) (hi : PI X tg iter wi)
    (hg : ∀ (A' : Around) (s : Shared) (H : Hp) (C : Addr) (code : Value) (fp : List Addr), Room k A' → PG (gx X A' s H (gEnv X scope C code) fp) tg g)
    (ht : ∀ (A' : Around) (s : Shared) (H : Hp) (C : Addr) (code : Value) (fp : List Addr), Room k A' → PTs (gx X A' s H (gEnv X scope C code) fp) ifs tt)
    (he : ∀ (A' : Around) (s : Shared) (H : Hp) (C : Addr) (code : Value) (fp : List Addr), Room k A' → PE (gx X A' s H (gEnv X scope C code) fp) elt te)
    (hs : ∀ v, genFold iter X.env v = pure v)
    (hst : starEach [.GeneratorExp elt [⟨tg, iter, ifs, 0⟩] scope gpos] X.env = (false, eval (.GeneratorExp elt [⟨tg, iter, ifs, 0⟩] scope gpos) X.env) :: starEach [] X.env) :
    PE X (.Call (.Name "all" p) [.GeneratorExp elt [⟨tg, iter, ifs, 0⟩] scope gpos] [] pos) (tGe false wi P g tt te (own.map (·.2))) := by
  refine ⟨fun pins s σ H Q I h => ?_⟩
  refine wpAny_Call_Name_kw (ld_blt I hgl hm (by rfl : bootBuiltins "all" = some (.builtin "all")) ?_)
  refine PyProof.Rows.callWith_builtin1 ?_ hst (by rfl)
  rw [hst]
  show wpAny _ _ (spliced ((false, eval (.GeneratorExp elt [⟨tg, iter, ifs, 0⟩] scope gpos) X.env) :: backTo pos (starEach [] X.env))) _ _ s
  refine Calls.spliced_cons (gen_make hr TB hcode ok hN hco hcell hdot hi hg ht he hs I h fun s4 H4 fp a gn m s5 I4 f4 hG => ?_)
  refine Calls.spliced_nil ?_
  refine call_all_gen hG hr.hd (by have := hr.dp; omega) fun t H' s' q1 q2 q3 q4 q5 => ?_
  exact ⟨.bl t, H', I4.call' q1 q3 q4 q2 fun b hb => ⟨(f4 b hb).2.2.2.1, (f4 b hb).2.1, (f4 b hb).2.2.2.2.1, (f4 b hb).2.2.2.2.2⟩, rfl, q5⟩
theorem pe_anyG (hc : X.calm = true) (hr : Room (k + 1) X.A) (TB : GxR.TabB X.base X.mg c P) (hcode : X.env.code = .ref c) (ok : BlkOk X.N X.env.scope scope own) (hN : X.N.Nodup) (hco : scope.isCoroutine = false) (hcell : ∀ y ∈ scope.names, y.2 ≠ .cell) (hdot : scope.names.lookup (".0" : Str) = some NameKind.local)
    (hgl : Gl X "any") (hm : X.mg "any" = none) (hi : PI X tg iter wi)
    (hg : ∀ (A' : Around) (s : Shared) (H : Hp) (C : Addr) (code : Value) (fp : List Addr), Room k A' → PG (gx X A' s H (gEnv X scope C code) fp) tg g)
    (ht : ∀ (A' : Around) (s : Shared) (H : Hp) (C : Addr) (code : Value) (fp : List Addr), Room k A' → PTs (gx X A' s H (gEnv X scope C code) fp) ifs tt)
    (he : ∀ (A' : Around) (s : Shared) (H : Hp) (C : Addr) (code : Value) (fp : List Addr), Room k A' → PE (gx X A' s H (gEnv X scope C code) fp) elt te)
    (hs : ∀ v, genFold iter X.env v = pure v)
    (hst : starEach [.GeneratorExp elt [⟨tg, iter, ifs, 0⟩] scope gpos] X.env = (false, eval (.GeneratorExp elt [⟨tg, iter, ifs, 0⟩] scope gpos) X.env) :: starEach [] X.env) :
    PE X (.Call (.Name "any" p) [.GeneratorExp elt [⟨tg, iter, ifs, 0⟩] scope gpos] [] pos) (tGe true wi P g tt te (own.map (·.2))) := by
  refine ⟨fun pins s σ H Q I h => ?_⟩
  refine wpAny_Call_Name_kw (ld_blt I hgl hm boot_any ?_)
  refine PyProof.Rows.callWith_builtin1 ?_ hst (by rfl)
  rw [hst]
  show wpAny _ _ (spliced ((false, eval (.GeneratorExp elt [⟨tg, iter, ifs, 0⟩] scope gpos) X.env) :: backTo pos (starEach [] X.env))) _ _ s
  refine Calls.spliced_cons (gen_make hr TB hcode ok hN hco hcell hdot hi hg ht he hs I h fun s4 H4 fp a gn m s5 I4 f4 hG => ?_)
  refine Calls.spliced_nil ?_
  refine call_any_gen hG hr.hd (by have := hr.dp; omega) fun t H' s' q1 q2 q3 q4 q5 => ?_
  exact ⟨.bl t, H', I4.call' q1 q3 q4 q2 fun b hb => ⟨(f4 b hb).2.2.2.1, (f4 b hb).2.1, (f4 b hb).2.2.2.2.1, (f4 b hb).2.2.2.2.2⟩, rfl, q5⟩
end
end

/-! ### as data -/
def geLoop (stop : Bool) (g : TgM) (mt : M Bool) (me : M D) (vs : List Nat) : List D → Rho → Option (Bool × Rho)
  | [], ρ => some (!stop, ρ)
  | d :: r, ρ => match g d ρ with
    | none => none
    | some ρ2 => match mt ρ2 with
      | some (.val true ρ3) => match me ρ3 with
        | some (.val (.bool t) ρ4) => if noInn ρ4 vs = true then (if t = stop then some (stop, wipeR ρ4 vs) else geLoop stop g mt me vs r (wipeR ρ4 vs)) else none
        | _ => none
      | some (.val false ρ3) => if noInn ρ3 vs = true then geLoop stop g mt me vs r (wipeR ρ3 vs) else none
      | _ => none
def M.ge (stop : Bool) (ms : M (List D)) (g : TgM) (mt : M Bool) (me : M D) (vs : List Nat) : M D := ms.bind fun ds ρ => if noInn ρ vs = true then match geLoop stop g mt me vs ds (wipeR ρ vs) with
  | some (t, ρ') => if noInn ρ' vs = true then some (.val (.bool t) (wipeR ρ' vs)) else none
  | none => none else none
section
variable {X : Cx} {G : Gc} {W : WX} {e tg elt iter : Expr} {es ifs : List Expr} {m me : M D} {mt : M Bool} {pos p gpos : Pos} {gm : TgM} {vs : List Nat} {P c : Addr} {k : Nat}
theorem tab_ext {H1 H2 : Hp} {σ : L2.St} {ρ : Rho} {f : Nat → Addr} (R : Rel G σ H1 ρ f) (hP : G.T P) (tb : GxR.Tabbed P H1 H2) : Rel G σ H2 ρ f ∧ Ext (Bad G ρ f) H1 (Bad G ρ f) H2 := by
  obtain ⟨R', x⟩ := R.upd (H' := H2) (ρ' := ρ) [] rfl (fun _ _ => rfl) (fun i hi => absurd hi (by simp)) (fun a o e _ ht => by
    rw [tb.2 a fun z => ht (z ▸ hP)]
    exact e) fun a ht => by
    by_cases ha : a = P
    · rw [ha]; exact tb.1
    · obtain ⟨ps, e, tr⟩ := (R.dom.2 a ht).2
      exact ⟨ps, by rw [tb.2 a ha]; exact e, tr⟩
  exact ⟨R', x⟩
theorem ge_imp {stop : Bool} {ms : M (List D)} {g : TgM} (hP : G.T P) : ∀ σ H Q, tD G W (M.ge stop ms g mt me vs) σ H Q → tGe stop (tI G W ms) P (tGv G vs g) (tT G F0 mt) (tD G F0 me) vs σ H Q := by
  rintro σ H Q ⟨ρ, f, r, R, hm, hp⟩
  refine tI_bind R hm (xok hp) fun ds ρ1 J n Gh Y H1 hk R1 x1 wk => ?_
  refine ⟨(R1.dom.2 P hP).2, fun H2 tb => ?_⟩
  obtain ⟨R2, x2⟩ := tab_ext R1 hP tb
  split at hk
  · rename_i hn1
    cases el : geLoop stop g mt me vs ds (wipeR ρ1 vs) with
    | none => rw [el] at hk; cases hk
    | some res =>
      rw [el] at hk
      obtain ⟨out, ρ'⟩ := res
      dsimp only at hk
      split at hk
      · rename_i hn2
        cases hk
        obtain ⟨R3, x3⟩ := R2.wipe vs hn1
        have xx := x2.trans x3
        have fin : ∀ {H' : Hp}, Rel G (L2.wipe σ vs) H' ρ' f → Ext (Bad G ρ1 f) H1 (Bad G ρ' f) H' → Q (.bl out) H' := fun {H'} R' x' => by
          obtain ⟨R4, x4⟩ := slots_back R' hn2
          exact hp _ H' R4 ((x1.trans x').trans x4) (.bl out)
        refine ⟨fun i m H2 => m = n - i ∧ i ≤ n ∧ ∃ ρ2 : Rho, Rel G (L2.wipe σ vs) H2 ρ2 f ∧ geLoop stop g mt me vs (ds.drop i) ρ2 = some (out, ρ') ∧ Ext (Bad G ρ1 f) H1 (Bad G ρ2 f) H2, ⟨n, by simp, Nat.zero_le _, _, R3, by simpa using el, xx⟩, ?_⟩
        rintro i m H3 ⟨rfl, hi, ρ2, R4, hl, x4⟩
        have hG := wk.keep _ _ x4
        by_cases hlt0 : i < n
        · refine .inr ⟨wk.walk.goes i H3 hlt0 hG, fun H2 => i + 1 ≤ n ∧ ∃ ρ2 : Rho, Rel G (L2.wipe σ vs) H2 ρ2 f ∧ geLoop stop g mt me vs (ds.drop (i + 1)) ρ2 = some (out, ρ') ∧ Ext (Bad G ρ1 f) H1 (Bad G ρ2 f) H2,
            fun H' p' => ⟨n - (i + 1), by omega, rfl, p'.1, p'.2⟩, fun x H' y => ?_⟩
          have y := wk.walk.yields i H3 x H' hlt0 hG y
          have hlt : i < ds.length := by rw [wk.len]; exact hlt0
          rw [List.drop_eq_getElem_cons hlt] at hl
          obtain ⟨s3, hx⟩ := wk.item i ds[i] (Bad G ρ2 f) H3 x H' (List.getElem?_eq_getElem hlt) x4 (fun p h => R4.free h) y
          have R5 := R4.same s3
          simp only [geLoop] at hl
          cases eg : g ds[i] ρ2 with
          | none => rw [eg] at hl; cases hl
          | some ρ3 =>
            rw [eg] at hl
            dsimp only at hl
            refine ⟨ρ2, f, ds[i], ρ3, R5, hx, eg, fun σ5 w5 R5 x5 => ⟨by rw [w5]; exact wipe_wipe, ?_⟩⟩
            have w5' : L2.wipe σ5 vs = L2.wipe σ vs := w5.trans wipe_wipe
            cases et : mt ρ3 with
            | none => rw [et] at hl; cases hl
            | some rt =>
              rw [et] at hl
              cases rt with
              | exc c ρ4 => cases hl
              | val b ρ4 =>
                refine ⟨ρ3, f, _, R5, et, fun H6 R6 x6 => ?_⟩
                have xx6 := ((x4.trans (Ext.same s3)).trans x5).trans x6
                cases b with
                | false =>
                  show if false = true then _ else _
                  rw [if_neg Bool.false_ne_true]
                  dsimp only at hl
                  split at hl
                  · rename_i hn
                    obtain ⟨R7, x7⟩ := wipe_rel R6 hn w5'
                    exact ⟨hlt0, _, R7, hl, xx6.trans x7⟩
                  · cases hl
                | true =>
                  show if true = true then _ else _
                  rw [if_pos rfl]
                  dsimp only at hl
                  cases ev : me ρ4 with
                  | none => rw [ev] at hl; cases hl
                  | some rv =>
                    rw [ev] at hl
                    cases rv with
                    | exc c ρ5 => cases hl
                    | val yd ρ5 =>
                      cases yd <;> try (cases hl)
                      rename_i t
                      dsimp only at hl
                      split at hl
                      · rename_i hn
                        refine ⟨ρ4, f, _, R6, ev, fun yv H7 R7 x7 hy => ⟨t, hy.bl_inv, ?_⟩⟩
                        obtain ⟨R8, x8⟩ := wipe_rel R7 hn w5'
                        by_cases ht : t = stop
                        · rw [if_pos ht] at hl ⊢
                          cases hl
                          exact fin R8 ((xx6.trans x7).trans x8)
                        · rw [if_neg ht] at hl ⊢
                          exact ⟨hlt0, _, R8, hl, (xx6.trans x7).trans x8⟩
                      · cases hl
        · have e : i = n := by omega
          subst e
          rw [← wk.len, List.drop_length] at hl
          cases hl
          exact .inl ⟨wk.walk.stops H3 hG, fin R4 x4⟩
      · cases hk
  · cases hk
/-- what a def's generator expressions need -/
structure GenOk (X : Cx) (G : Gc) : Prop where
  ex : ∃ c P, GxR.TabB X.base X.mg c P ∧ X.env.code = .ref c ∧ G.T P
theorem de_all {ms : M (List D)} {g : TgM} {scope : Scope} (own : List (Str × Nat)) (hc : X.calm = true) (hN : X.N.Nodup) (go : GenOk X G) (hr : Room (k + 1) X.A) (ok : BlkOk X.N X.env.scope scope own) (hm : X.mg "all" = none) (hi : DI X G W tg iter ms)
    (hg : ∀ (A' : Around) (s : Shared) (H : Hp) (C : Addr) (code : Value) (fp : List Addr), Room k A' → DGv (gx X A' s H (gEnv X scope C code) fp) G (own.map (·.2)) tg g)
    (ht : ∀ (A' : Around) (s : Shared) (H : Hp) (C : Addr) (code : Value) (fp : List Addr), Room k A' → DTs (gx X A' s H (gEnv X scope C code) fp) G F0 ifs mt)
    (he : ∀ (A' : Around) (s : Shared) (H : Hp) (C : Addr) (code : Value) (fp : List Addr), Room k A' → DE (gx X A' s H (gEnv X scope C code) fp) G F0 elt me)
    (hco : scope.isCoroutine = false := by rfl) (hcell : ∀ y ∈ scope.names, y.2 ≠ .cell := by decide) (hdot : scope.names.lookup (".0" : Str) = some NameKind.local := by rfl) (hgl : Gl X "all" := by rfl) (hs : ∀ v, genFold iter X.env v = pure v := by intro _; rfl)
    (hst : starEach [.GeneratorExp elt [⟨tg, iter, ifs, 0⟩] scope gpos] X.env = (false, eval (.GeneratorExp elt [⟨tg, iter, ifs, 0⟩] scope gpos) X.env) :: starEach [] X.env := by rfl) :
    DE X G W (.Call (.Name "all" p) [.GeneratorExp elt [⟨tg, iter, ifs, 0⟩] scope gpos] [] pos) (M.ge false ms g mt me (own.map (·.2))) := by
  obtain ⟨c, P, h1, h2, h3⟩ := go.ex
  exact imp (pe_allG hc hr h1 h2 ok hN hco hcell hdot hgl hm hi hg ht he hs hst) (ge_imp h3)
theorem de_any {ms : M (List D)} {g : TgM} {scope : Scope} (own : List (Str × Nat)) (hc : X.calm = true) (hN : X.N.Nodup) (go : GenOk X G) (hr : Room (k + 1) X.A) (ok : BlkOk X.N X.env.scope scope own) (hm : X.mg "any" = none) (hi : DI X G W tg iter ms)
    (hg : ∀ (A' : Around) (s : Shared) (H : Hp) (C : Addr) (code : Value) (fp : List Addr), Room k A' → DGv (gx X A' s H (gEnv X scope C code) fp) G (own.map (·.2)) tg g)
    (ht : ∀ (A' : Around) (s : Shared) (H : Hp) (C : Addr) (code : Value) (fp : List Addr), Room k A' → DTs (gx X A' s H (gEnv X scope C code) fp) G F0 ifs mt)
    (he : ∀ (A' : Around) (s : Shared) (H : Hp) (C : Addr) (code : Value) (fp : List Addr), Room k A' → DE (gx X A' s H (gEnv X scope C code) fp) G F0 elt me)
    (hco : scope.isCoroutine = false := by rfl) (hcell : ∀ y ∈ scope.names, y.2 ≠ .cell := by decide) (hdot : scope.names.lookup (".0" : Str) = some NameKind.local := by rfl) (hgl : Gl X "any" := by rfl) (hs : ∀ v, genFold iter X.env v = pure v := by intro _; rfl)
    (hst : starEach [.GeneratorExp elt [⟨tg, iter, ifs, 0⟩] scope gpos] X.env = (false, eval (.GeneratorExp elt [⟨tg, iter, ifs, 0⟩] scope gpos) X.env) :: starEach [] X.env := by rfl) :
    DE X G W (.Call (.Name "any" p) [.GeneratorExp elt [⟨tg, iter, ifs, 0⟩] scope gpos] [] pos) (M.ge true ms g mt me (own.map (·.2))) := by
  obtain ⟨c, P, h1, h2, h3⟩ := go.ex
  exact imp (pe_anyG hc hr h1 h2 ok hN hco hcell hdot hgl hm hi hg ht he hs hst) (ge_imp h3)
end
end DL
namespace DL
open PySem PySem.Spec PyProof.Rows L2

/-! ### lists that are changed -/
def mutL (ρ : Rho) (i : Nat) : Option (Bool × List D) := match ρ[i]? with
  | some (some (.mut b (.lst ds))) => some (b, ds)
  | _ => none
theorem mutL_inv {ρ : Rho} {i : Nat} {b : Bool} {ds : List D} (h : mutL ρ i = some (b, ds)) : ρ[i]? = some (some (.mut b (.lst ds))) := by
  unfold mutL at h
  split at h
  · rename_i b' ds' e
    cases h
    exact e
  · cases h
/-- x.append(e) -/
def M.app (i : Nat) (m : M D) : M D := fun ρ => match mutL ρ i with
  | none => none
  | some _ => M.bind m (fun d ρ' => match mutL ρ' i with
    | some (b, ds) => if ds.length < 16777216 then some (.val .none (ρ'.set i (some (.mut b (.lst (ds ++ [d])))))) else none
    | none => none) ρ
/-- x.pop() -/
def M.pop (i : Nat) : M D := fun ρ => match mutL ρ i with
  | some (b, ds) => match ds.getLast? with
    | some d => some (.val d (ρ.set i (some (.mut b (.lst ds.dropLast)))))
    | none => none
  | none => none
/-- x.pop(e) -/
def M.popAt (i : Nat) (m : M D) : M D := fun ρ => match mutL ρ i with
  | none => none
  | some _ => M.bind m (fun k ρ' => match k, mutL ρ' i with
    | .int j, some (b, ds) => if -(2 ^ 62) ≤ j ∧ j < 2 ^ 62 then match seqIndex? j ds.length with
      | some n => match ds[n]? with
        | some d => some (.val d (ρ'.set i (some (.mut b (.lst (ds.eraseIdx n))))))
        | none => none
      | none => none else none
    | _, _ => none) ρ
/-- x[k] = e -/
def S.setIx (i : Nat) (mk me : M D) : SS := S.of me fun d ρ => match mutL ρ i with
  | none => none
  | some _ => S.of mk (fun k ρ' => match k, mutL ρ' i with
    | .int j, some (b, ds) => match ixN ds.length j with
      | some n => some (.nx (ρ'.set i (some (.mut b (.lst (ds.set n d))))))
      | none => none
    | _, _ => none) ρ
section
variable {X : Cx} {G : Gc} {W : WX} {a b c e ei : Expr} {es : List Expr} {m ma mb mc mk me : M D} {mt mu : M Bool} {pos apos cpos : Pos} {k : Nat}
theorem HasL.dropLast {K : PySem.W.Frag} {B : Addr → Prop} {H : Hp} : ∀ {vs : List V} {ds : List D}, HasL K B H vs ds → HasL K B H vs.dropLast ds.dropLast
  | _, _, .nil => .nil
  | _, _, .cons h .nil => .nil
  | _, _, .cons h (.cons h2 t) => .cons h (HasL.dropLast (.cons h2 t))
theorem HasL.eraseIdx {K : PySem.W.Frag} {B : Addr → Prop} {H : Hp} : ∀ {vs : List V} {ds : List D} (i : Nat), HasL K B H vs ds → HasL K B H (vs.eraseIdx i) (ds.eraseIdx i)
  | _, _, _, .nil => .nil
  | _, _, 0, .cons _ t => t
  | _, _, i + 1, .cons h t => .cons h (HasL.eraseIdx i t)
/-- the list of a slot as it stands -/
theorem Rel.mutLst {σ : L2.St} {H : Hp} {ρ : Rho} {f : Nat → Addr} {i : Nat} {b : Bool} {ds : List D} (R : Rel G σ H ρ f) (h : mutL ρ i = some (b, ds)) : σ[i]? = some (some (.ref (f i))) ∧ ∃ vs, H (f i) = some (.lst vs) ∧ HasL G.K (Bad G ρ f) H vs ds := by
  obtain ⟨e, ok⟩ := R.mutAt (mutL_inv h)
  exact ⟨e, ok⟩
theorem Rel.lstUpd {σ : L2.St} {H : Hp} {ρ : Rho} {f : Nat → Addr} {i : Nat} {b : Bool} {ds es : List D} {ws : List V} (R : Rel G σ H ρ f) (h : mutL ρ i = some (b, ds)) (hw : HasL G.K (Bad G ρ f) H ws es) :
    Rel G σ (L2.upd H (f i) (.lst ws)) (ρ.set i (some (.mut b (.lst es)))) f ∧ Ext (Bad G ρ f) H (Bad G (ρ.set i (some (.mut b (.lst es)))) f) (L2.upd H (f i) (.lst ws)) := by
  have e := mutL_inv h
  have hb := R.mutBad e
  refine R.upd1 e ⟨ws, upd_same, hw.ext fun a o h1 h2 => ⟨h1, ?_⟩⟩ fun a o h1 h2 => by rw [upd_ne (Ne.symm h2)]; exact h1
  have hne : a ≠ f i := fun z => h1 (by rw [z]; exact hb)
  rw [upd_ne hne]
  exact h2
theorem de_append {x : Str} {px : Pos} (i : Nat) (he : DE X G W e m) (hN : X.N[i]? = some x := by rfl) (hv : Vis X.env.scope x := by first | exact Or.inl rfl | exact Or.inr (Or.inl rfl) | exact Or.inr (Or.inr rfl)) (hd : (x == ("__debug__" : Str)) = false := by decide)
    (hcd : (x == ("__classdict__" : Str)) = false := by decide) (hbase : attributeBase (.Name x px) "append" X.env (eval (.Name x px) X.env) = eval (.Name x px) X.env := by rfl)
    (hfew : ((backTo cpos (starEach [e] X.env)).all (fun x => !x.1) && (backToKw cpos (keywordEach [] X.env)).all (fun x => x.1.isSome)
      && decide ([e].length + ([] : List Keyword).length + (if ([] : List Keyword).isEmpty then 0 else 1) < 30)) = true := by rfl)
    (hline : (apos.endLine == cpos.line) = true := by rfl) (hs : starEach [e] X.env = (false, eval e X.env) :: starEach [] X.env := by rfl) (hk : X.K = G.K := by rfl) :
    DE X G W (.Call (.Attribute (.Name x px) "append" apos) [e] [] cpos) (M.app i m) := by
  refine imp (pe_bm PySem.F.plainAttrs_list PySem.F.slot_list_append PySem.F.type_list_append mt_append (pv i hN hv hd hcd) (pa_cons he pa_nil hs) hbase hfew hline hs rfl) ?_
  rintro σ H Q ⟨ρ, f, r, R, hm, hp⟩
  unfold M.app at hm
  cases e0 : mutL ρ i with
  | none => rw [e0] at hm; cases hm
  | some bd =>
    obtain ⟨b0, ds0⟩ := bd
    rw [e0] at hm
    dsimp only at hm
    obtain ⟨e1, vs0, h0, _⟩ := R.mutLst e0
    refine ⟨_, e1, .inl ⟨rfl, vs0, SqL.of h0⟩, ?_⟩
    refine tD_bind R hm (xok hp) fun d ρ1 v H1 hk1 R1 x1 hv => ?_
    cases e2 : mutL ρ1 i with
    | none => rw [e2] at hk1; cases hk1
    | some bd =>
      obtain ⟨b1, ds⟩ := bd
      rw [e2] at hk1
      dsimp only at hk1
      split at hk1
      · rename_i hl
        cases hk1
        obtain ⟨_, vs, h1, hh⟩ := R1.mutLst e2
        obtain ⟨R2, x2⟩ := R1.lstUpd e2 (hh.append (.cons hv .nil))
        exact ⟨f i, vs, v, rfl, rfl, h1, by rw [hh.length]; exact hl, hp _ _ R2 (x1.trans x2) .non⟩
      · cases hk1
theorem de_pop {x : Str} {px : Pos} (i : Nat) (hN : X.N[i]? = some x := by rfl) (hv : Vis X.env.scope x := by first | exact Or.inl rfl | exact Or.inr (Or.inl rfl) | exact Or.inr (Or.inr rfl)) (hd : (x == ("__debug__" : Str)) = false := by decide)
    (hcd : (x == ("__classdict__" : Str)) = false := by decide) (hbase : attributeBase (.Name x px) "pop" X.env (eval (.Name x px) X.env) = eval (.Name x px) X.env := by rfl) (hline : (apos.endLine == cpos.line) = true := by rfl) :
    DE X G W (.Call (.Attribute (.Name x px) "pop" apos) [] [] cpos) (M.pop i) := by
  refine imp (pe_bm0 PySem.F.plainAttrs_list PySem.F.slot_list_pop PySem.F.type_list_pop mt_pop (pv i hN hv hd hcd) hbase hline) ?_
  rintro σ H Q ⟨ρ, f, r, R, hm, hp⟩
  unfold M.pop at hm
  cases e0 : mutL ρ i with
  | none => rw [e0] at hm; cases hm
  | some bd =>
    obtain ⟨b0, ds⟩ := bd
    rw [e0] at hm
    dsimp only at hm
    cases el : ds.getLast? with
    | none => rw [el] at hm; cases hm
    | some d =>
      rw [el] at hm
      cases hm
      obtain ⟨e1, vs, h0, hh⟩ := R.mutLst e0
      rw [List.getLast?_eq_getElem?] at el
      obtain ⟨v, ev, hv⟩ := hh.get el
      obtain ⟨R2, x2⟩ := R.lstUpd e0 hh.dropLast
      exact ⟨_, e1, .inl ⟨rfl, vs, SqL.of h0⟩, f i, vs, v, rfl, rfl, h0, by rw [hh.length]; exact ev, hp _ _ R2 x2 (hv.ext x2)⟩
theorem de_popAt {x : Str} {px : Pos} (i : Nat) (he : DE X G W e m) (hN : X.N[i]? = some x := by rfl) (hv : Vis X.env.scope x := by first | exact Or.inl rfl | exact Or.inr (Or.inl rfl) | exact Or.inr (Or.inr rfl)) (hd : (x == ("__debug__" : Str)) = false := by decide)
    (hcd : (x == ("__classdict__" : Str)) = false := by decide) (hbase : attributeBase (.Name x px) "pop" X.env (eval (.Name x px) X.env) = eval (.Name x px) X.env := by rfl)
    (hfew : ((backTo cpos (starEach [e] X.env)).all (fun x => !x.1) && (backToKw cpos (keywordEach [] X.env)).all (fun x => x.1.isSome)
      && decide ([e].length + ([] : List Keyword).length + (if ([] : List Keyword).isEmpty then 0 else 1) < 30)) = true := by rfl)
    (hline : (apos.endLine == cpos.line) = true := by rfl) (hs : starEach [e] X.env = (false, eval e X.env) :: starEach [] X.env := by rfl) :
    DE X G W (.Call (.Attribute (.Name x px) "pop" apos) [e] [] cpos) (M.popAt i m) := by
  refine imp (pe_bm PySem.F.plainAttrs_list PySem.F.slot_list_pop PySem.F.type_list_pop mt_popAt (pv i hN hv hd hcd) (pa_cons he pa_nil hs) hbase hfew hline hs rfl) ?_
  rintro σ H Q ⟨ρ, f, r, R, hm, hp⟩
  unfold M.popAt at hm
  cases e0 : mutL ρ i with
  | none => rw [e0] at hm; cases hm
  | some bd =>
    obtain ⟨b0, ds0⟩ := bd
    rw [e0] at hm
    dsimp only at hm
    obtain ⟨e1, vs0, h0, _⟩ := R.mutLst e0
    refine ⟨_, e1, .inl ⟨rfl, vs0, SqL.of h0⟩, ?_⟩
    refine tD_bind R hm (xok hp) fun d ρ1 v H1 hk1 R1 x1 hv => ?_
    split at hk1
    · rename_i j b1 ds e2
      split at hk1
      · rename_i hj
        cases en : seqIndex? j ds.length with
        | none => rw [en] at hk1; cases hk1
        | some n =>
          rw [en] at hk1
          dsimp only at hk1
          cases ed : ds[n]? with
          | none => rw [ed] at hk1; cases hk1
          | some d =>
            rw [ed] at hk1
            cases hk1
            obtain ⟨_, vs, h1, hh⟩ := R1.mutLst e2
            obtain ⟨y, ey, hy⟩ := hh.get ed
            obtain ⟨R2, x2⟩ := R1.lstUpd e2 (hh.eraseIdx n)
            exact ⟨f i, vs, j, n, y, rfl, by rw [hv.int_inv], h1, by omega, by omega, by rw [hh.length]; exact en, ey, hp _ _ R2 (x1.trans x2) (hy.ext x2)⟩
      · cases hk1
    · cases hk1
theorem ds_setIx {x : Str} {px tpos : Pos} (i : Nat) (hv' : DE X G W e me) (hi' : DE X G W ei mk) (hN : X.N[i]? = some x := by rfl) (hv : Vis X.env.scope x := by first | exact Or.inl rfl | exact Or.inr (Or.inl rfl) | exact Or.inr (Or.inr rfl)) (hd : (x == ("__debug__" : Str)) = false := by decide)
    (hcd : (x == ("__classdict__" : Str)) = false := by decide) (ha : ∀ v, assign (.Subscript (.Name x px) ei tpos) X.env v = (do
      let ov ← holding [v] (eval (.Name x px) X.env)
      let iv ← holding [v, ov] (eval ei X.env)
      standAt tpos
      holding [v, ov, iv] (setItem ov iv v)
      release [v, ov, iv] []) := by intro _; rfl) (hs : swapsWithSole [.Subscript (.Name x px) ei tpos] e pos.line X.env = pure false := by rfl) (hw : swappedStores [.Subscript (.Name x px) ei tpos] e X.env = pure none := by rfl)
    (h1 : (assignEach [.Subscript (.Name x px) ei tpos] X.env).map (·.2) = [assign (.Subscript (.Name x px) ei tpos) X.env] := by rfl) :
    DS X G W (.Assign [.Subscript (.Name x px) ei tpos] e pos) (S.setIx i mk me) := by
  refine impS (ps_asg hv' (pg_sub (pv i hN hv hd hcd) hi' set_list ha) hs hw h1) ?_
  rintro E σ H ⟨ρ, f, r, R, hm, hp⟩
  refine tD_of (α := D) R hm hp fun d ρ1 v H1 hk R1 x1 hv => ?_
  cases e0 : mutL ρ1 i with
  | none => rw [e0] at hk; cases hk
  | some bd =>
    rw [e0] at hk
    dsimp only at hk
    obtain ⟨b0, ds0⟩ := bd
    obtain ⟨e1, _⟩ := R1.mutLst e0
    refine ⟨_, e1, ?_⟩
    refine tD_of (α := D) R1 hk (hp.mono x1) fun kd ρ2 kv H2 hk2 R2 x2 hkv => ?_
    split at hk2
    · rename_i j b1 ds e2
      cases en : ixN ds.length j with
      | none => rw [en] at hk2; cases hk2
      | some n =>
        rw [en] at hk2
        cases hk2
        obtain ⟨_, vs, h1, hh⟩ := R2.mutLst e2
        obtain ⟨R3, x3⟩ := R2.lstUpd e2 (hh.set n (hv.ext x2))
        exact ⟨f i, vs, j, n, rfl, by rw [hkv.int_inv], h1, by rw [hh.length]; exact en, hp σ _ f R3 ((x1.trans x2).trans x3)⟩
    · cases hk2
end
end DL
namespace DL
open PySem PySem.Spec PyProof.Rows L2 PpSet

/-! ### {e for x in xs if t}: ints (after the library's rule for truth values) -/
section
variable {X : Cx}
def tSi (w : World) (wi : TI) (g : TG) (tt : TT) (te : TE) (vs : List Nat) : TE := fun σ H Q => wi σ H fun J H1 => ∀ D, H1 D = none → ∃ W : Nat → Nat → Hp → Prop, (∃ m, W 0 m (upd H1 D (SetO w D (fun _ : Int => false) 0))) ∧ ∀ i m H, W i m H →
  (J.stop i H ∧ Q (.ref D) H) ∨ (J.go i H ∧ ∃ Nx : Hp → Prop, (∀ H', Nx H' → ∃ m', m' < m ∧ W (i + 1) m' H') ∧ ∀ x H', J.yld i H x H' → g x (wipe σ vs) H' fun σ2 H2 => wipe σ2 vs = wipe σ vs ∧ tt σ2 H2 fun b H3 =>
    if b = true then te σ2 H3 fun y H4 => ∃ (c : Int) (S : Int → Bool) (n : Nat), y = .int c ∧ H4 D = some (SetO w D S n) ∧ n + 1 < scanBound ∧ Nx (upd H4 D (SetO w D (fun j => S j || decide (j = c)) (if S c = true then n else n + 1))) else Nx H3)
theorem si_core {pins : List (Addr × Obj)} {s : Shared} {σ : L2.St} {H : Hp} {Q : VK} {elt tg iter : Expr} {ifs : List Expr} {scope : Scope} {own : List (PySem.Str × Nat)} {pos pos' : Pos} {wi : TI} {g : TG} {tt : TT} {te : TE} {use : Option (Value → Sem Unit)} {Qf : Value → Shared → Prop}
    (hc : X.calm = true) (hN : X.N.Nodup) (I : Inv X pins σ H s) (hi : PI X tg iter wi) (ok : BlkOk X.N X.env.scope scope own)
    (hg : ∀ (s : Shared) (H : Hp) (C : Addr) (cl : List (PySem.Str × Addr)) (fp : List Addr), PG (X.blk s H scope (compEnvC scope cl C X.env) fp) tg g) (ht : ∀ (s : Shared) (H : Hp) (C : Addr) (cl : List (PySem.Str × Addr)) (fp : List Addr), PTs (X.blk s H scope (compEnvC scope cl C X.env) fp) ifs tt)
    (he : ∀ (s : Shared) (H : Hp) (C : Addr) (cl : List (PySem.Str × Addr)) (fp : List Addr), PE (X.blk s H scope (compEnvC scope cl C X.env) fp) elt te) (hs : ∀ x, foldedSetIterable iter X.env x = pure x)
    (h : tSi X.w wi g tt te (own.map (·.2)) σ H Q)
    (hRR : ∀ D C s' m H', Inv X pins σ H' s' → Q (.ref D) H' → s'.heap.Ns C m → FpOk X pins H' C → compPost (model X.prog X.w) X.A X.xe use Qf (.ref D) C (.ok .next) s') :
    wpAny (model X.prog X.w) X.A (comprehension (.SetComp elt [⟨tg, iter, ifs, 0⟩] scope pos) scope X.env pos' (newSet (.type "set")) false (eval iter X.env) use) Qf X.xe s := by
  have hfree : ∀ y ∈ scope.names, y.2 = .free → ∃ c, X.env.cells.lookup y.1 = some c := fun y hy e => by
    rcases ok.free y hy e with k | k
    · exact I.ok.has _ (.inl k)
    · exact I.ok.has _ (.inr k)
  refine wpAny_comprehension_free (use := use) rfl hs (closure_ok hfree) ok.kind (fun y hy e => by rw [ok.uniq y hy, e])
    (thn (hi.run pins s σ H _ I h) fun xv s1 hx => thn hx fun itv s2 h2 => ?_)
  obtain ⟨it, fp, tn, J, H2, e, I2, T, st2, f2, q⟩ := h2
  subst e
  refine newSet_ok (newEnv_comp ?_)
  generalize hD : s2.heap.objs.size = D
  have hDn : H2 D = none := I2.hok.fresh (Nat.le_of_eq hD)
  obtain ⟨W, ⟨m0, w0⟩, turn⟩ := q D hDn
  generalize hs3 : ({ s2 with heap := s2.heap.push { cls := .type "set", dict := none, data := .set #[] 0 (.fresh 0 0 (!X.w.params.followText "set-order")) } } : Shared) = s3
  have I3 : Inv X pins σ (upd H2 D (SetO X.w D (fun _ : Int => false) 0)) s3 := by
    rw [← hs3]
    refine I2.laid (t' := s2.toks) (fun b o e => Heap.get?_push_of_some _ e) (Nat.le_of_eq hD) ?_
    rw [← hD]
    exact setO_new (setR_fresh X.w)
  have h3 : s3.heap = s2.heap.push { cls := .type "set", dict := none, data := .set #[] 0 (.fresh 0 0 (!X.w.params.followText "set-order")) } := by rw [← hs3]
  have sz : ∀ b ∈ fp, b < s2.heap.objs.size := fun b hb => by
    obtain ⟨o, e, _⟩ := T.obj _ _ st2 b hb
    exact Heap.lt_size e
  have f3 : ∀ b ∈ fp, FpOk X pins (upd H2 D (SetO X.w D (fun _ : Int => false) 0)) b ∧ b < s3.heap.objs.size := fun b hb => by
    have hlt := sz b hb
    refine ⟨⟨?_, (f2 b hb).2⟩, by rw [h3, Heap.size_push]; exact Nat.lt_succ_of_lt hlt⟩
    rw [upd_ne (by rw [← hD]; exact Nat.ne_of_lt hlt)]
    exact (f2 b hb).1
  have st3 : tn 0 s3.heap := T.keep _ _ _ st2 fun b _ o e => by rw [h3]; exact Heap.get?_push_of_some _ e
  have I4 := block_start I3 ok hN f3
  have pg := hg s3 (upd H2 D (SetO X.w D (fun _ : Int => false) 0)) s3.heap.objs.size (cellsFrom (s3.heap.objs.size + 1) scope.names (cloFrom X.env.cells scope.names [])) fp
  have pt := ht s3 (upd H2 D (SetO X.w D (fun _ : Int => false) 0)) s3.heap.objs.size (cellsFrom (s3.heap.objs.size + 1) scope.names (cloFrom X.env.cells scope.names [])) fp
  have pe := he s3 (upd H2 D (SetO X.w D (fun _ : Int => false) 0)) s3.heap.objs.size (cellsFrom (s3.heap.objs.size + 1) scope.names (cloFrom X.env.cells scope.names [])) fp
  show codeAny _ _ (.compStart (.SetComp elt [⟨tg, iter, ifs, 0⟩] scope pos) 0 (.ref it) (.ref D) (compEnvC scope (cellsFrom (s3.heap.objs.size + 1) scope.names (cloFrom X.env.cells scope.names [])) s3.heap.objs.size X.env)) (compPost (model X.prog X.w) X.A X.xe use Qf (.ref D) s3.heap.objs.size) { s3 with heap := pushCells (s3.heap.push { cls := .type "dict", data := .dict #[] }) scope.names }
  have nfp : ∀ b ∈ fp, (upd H2 D (SetO X.w D (fun _ : Int => false) 0)) b = none := fun b hb => (f3 b hb).1.1
  generalize hce : compEnvC scope (cellsFrom (s3.heap.objs.size + 1) scope.names (cloFrom X.env.cells scope.names [])) s3.heap.objs.size X.env = ce at I4 pg pt pe ⊢
  have cL : ce.locals = s3.heap.objs.size := by subst hce; rfl
  generalize hH3 : upd H2 D (SetO X.w D (fun _ : Int => false) 0) = H3 at I3 I4 pg pt pe w0 nfp f3
  generalize hs4 : ({ s3 with heap := pushCells (s3.heap.push { cls := .type "dict", data := .dict #[] }) scope.names } : Shared) = s4 at I4 ⊢
  have st4 : tn 0 s4.heap := T.keep _ _ _ st3 fun b _ o e => by rw [← hs4]; exact pushCells_keeps _ _ _ _ (Heap.get?_push_of_some _ e)
  have stat : ∀ {σ' : L2.St} {H' : Hp} {s' : Shared}, Inv (X.blk s3 H3 scope ce fp) [] σ' H' s' → (∀ b ∈ fp, H' b = none) → ∀ b ∈ fp, FpOk (X.blk s3 H3 scope ce fp) [] H' b := fun {σ' H' s'} I' hn b hb =>
    ⟨hn b hb, (I'.ok.exf b hb).1, I'.ok.exfs b hb, .inl hb, fun x c e => (I'.ok.exf b hb).2 x c e, fun p hp => absurd (show p ∈ ([] : List (Addr × Obj)) ++ [] from hp) (by simp)⟩
  have loop : codeAny (model X.prog X.w) X.A (.compLoop (.SetComp elt [⟨tg, iter, ifs, 0⟩] scope pos) 0 (.ref it) (.ref D) ce) (compPost (model X.prog X.w) X.A X.xe use Qf (.ref D) s3.heap.objs.size) s4 := by
    refine compLoopS_any (fun n s' => ∃ i H', Inv (X.blk s3 H3 scope ce fp) [] (wipe σ (own.map (·.2))) H' s' ∧ tn i s'.heap ∧ (∀ b ∈ fp, H' b = none) ∧ W i n H') ?_ m0 ⟨0, H3, I4, st4, nfp, w0⟩
    rintro n s5 ⟨i, H5, I5, st5, n5, w5⟩
    rcases turn i n H5 w5 with ⟨stop, qq⟩ | ⟨go, Nx, hNx, step⟩
    · have td := T.done (X.blk s3 H3 scope ce fp) rfl rfl rfl hc i [] s5 _ H5 (fun _ _ => False) I5 (stat I5 n5) st5 stop
      refine thnF td fun r s6 ⟨hr, I6⟩ => ?_
      subst hr
      have I7 : Inv X pins σ H5 s6 := I3.call' (ch := fp) I6.os I6.base I6.hok I6.bare fun b hb => ⟨(f3 b hb).1.2.2.2.1, (f3 b hb).1.2.1, (f3 b hb).1.2.2.2.2.1, (f3 b hb).1.2.2.2.2.2⟩
      have nC : H5 s3.heap.objs.size = none := by
        have z : H5 ce.locals = none := I6.free
        rw [cL] at z
        exact z
      obtain ⟨m, hn, _⟩ := I6.loc
      have hn : s6.heap.Ns ce.locals m := hn
      rw [cL] at hn
      exact hRR D s3.heap.objs.size s6 m H5 I7 qq hn (I3.fpOk (Nat.le_refl _) nC)
    · have ti := T.item (X.blk s3 H3 scope ce fp) rfl rfl rfl hc i [] s5 _ H5 (fun _ _ => False) I5 (stat I5 n5) st5 go
      refine thnF ti fun r s6 ⟨u, hr, h6⟩ => ?_
      subst hr
      refine thnF h6 fun _ s7 ⟨x, H7, I7, r7, y7, st7, n7⟩ => ?_
      have I7' := I7.pinned (stat I7 n7) (T.obj _ _ st7)
      refine thnF (pg.run _ s7 _ H7 x u _ I7' r7 (step x H7 y7)) fun _ s8 ⟨σ8, H8, I8, hw8, q8⟩ => ?_
      refine thnF (pt.run _ s8 σ8 H8 _ I8 q8) fun b s9 ⟨H9, I9, q9⟩ => ?_
      have fin : ∀ {s' : Shared} {H' : Hp}, Inv (X.blk s3 H3 scope ce fp) ([] ++ pinsAt fp s7.heap) σ8 H' s' → Nx H' → ∃ m, m < n ∧ ∃ i H', Inv (X.blk s3 H3 scope ce fp) [] (wipe σ (own.map (·.2))) H' s' ∧ tn i s'.heap ∧ (∀ b ∈ fp, H' b = none) ∧ W i m H' := fun {s' H'} I' nx => by
        obtain ⟨m', hm, w'⟩ := hNx H' nx
        have pin' : ∀ b ∈ fp, ∀ o, s7.heap.get? b = some o → s'.heap.get? b = some o ∧ H' b = none := fun b hb o e =>
          let z := I'.pin (b, o) (List.mem_append_right _ (List.mem_append_right _ (mem_pinsAt hb e)))
          ⟨z.1, z.2.1⟩
        have hl : (wipe σ (own.map (·.2))).length = σ8.length := by rw [← hw8, wipe_length]
        refine ⟨m', hm, i + 1, H', (I'.unpinned (pins := [])).weak hl (fun j v e => ?_), T.keep _ _ _ st7 fun b hb o e => (pin' b hb o e).1, fun b hb => ?_, w'⟩
        · rw [← hw8] at e
          exact (wipe_some e).1
        · obtain ⟨o, e, _⟩ := T.obj _ _ st7 b hb
          exact (pin' b hb o e).2
      cases b with
      | false =>
        simp only [Bool.false_eq_true, if_false] at q9 ⊢
        exact fin I9 q9
      | true =>
        simp only [if_true] at q9 ⊢
        refine thnF (pe.run _ s9 σ8 H9 _ I9 q9) fun z s10 ⟨yv, H10, I10, r10, cb, S0, n0, ey, hD10, hz10, nx⟩ => ?_
        refine thnF (mt_sadd (X := X.blk s3 H3 scope ce fp) _ s10 σ8 H10 (.ref D) [yv] (.ref D) [z] (fun _ H => Nx H) I10 rfl (.cons r10 .nil) ⟨D, cb, S0, n0, rfl, by rw [ey], hD10, hz10, nx⟩) fun _ s11 ⟨_, H11, I11, _, q11⟩ => fin I11 q11
  exact codeAny_compStart_set loop (T.self X.A 0 _ _ _ st4 loop)
theorem pe_si {elt tg iter : Expr} {ifs : List Expr} {scope : Scope} {own : List (PySem.Str × Nat)} {pos : Pos} {wi : TI} {g : TG} {tt : TT} {te : TE} (hc : X.calm = true) (hN : X.N.Nodup) (hi : PI X tg iter wi) (ok : BlkOk X.N X.env.scope scope own)
    (hg : ∀ (s : Shared) (H : Hp) (C : Addr) (cl : List (PySem.Str × Addr)) (fp : List Addr), PG (X.blk s H scope (compEnvC scope cl C X.env) fp) tg g) (ht : ∀ (s : Shared) (H : Hp) (C : Addr) (cl : List (PySem.Str × Addr)) (fp : List Addr), PTs (X.blk s H scope (compEnvC scope cl C X.env) fp) ifs tt)
    (he : ∀ (s : Shared) (H : Hp) (C : Addr) (cl : List (PySem.Str × Addr)) (fp : List Addr), PE (X.blk s H scope (compEnvC scope cl C X.env) fp) elt te) (hs : ∀ x, foldedSetIterable iter X.env x = pure x := by intro _; rfl) :
    PE X (.SetComp elt [⟨tg, iter, ifs, 0⟩] scope pos) (tSi X.w wi g tt te (own.map (·.2))) := by
  refine ⟨fun pins s σ H Q I h => ?_⟩
  rw [eval_SetComp]
  refine si_core hc hN I hi ok hg ht he hs h fun D C s' m H' I' q hn f => ⟨m, hn, fun h'' sb => ?_⟩
  obtain ⟨f0, f1, f2, f3, f4, f5⟩ := f
  exact ⟨.ref D, H', I'.turned (t' := s'.toks) (fun b o hb e => (sb.2 b hb).trans e) f0 f1 f3 f4 f5, rfl, q⟩
end

/-! ### sorted({e for x in xs if t}) as data: the members in order -/
def insI (x : Int) : List Int → List Int
  | [] => [x]
  | y :: r => if x < y then x :: y :: r else if x = y then y :: r else y :: insI x r
theorem mem_insI {x j : Int} : ∀ {l : List Int}, j ∈ insI x l ↔ j ∈ l ∨ j = x
  | [] => by simp [insI]
  | y :: r => by
    unfold insI
    split
    · simp only [List.mem_cons]
      exact ⟨fun h => by rcases h with h | h | h <;> simp [h], fun h => by rcases h with (h | h) | h <;> simp [h]⟩
    · split
      · rename_i h1 h2
        subst h2
        simp only [List.mem_cons]
        exact ⟨fun h => .inl h, fun h => by rcases h with h | h; exact h; exact .inl h⟩
      · simp only [List.mem_cons, mem_insI (l := r)]
        exact ⟨fun h => by rcases h with h | h | h <;> simp [h], fun h => by rcases h with (h | h) | h <;> simp [h]⟩
theorem sorted_insI {x : Int} : ∀ {l : List Int}, l.Pairwise (· < ·) → (insI x l).Pairwise (· < ·)
  | [], _ => by simp [insI]
  | y :: r, h => by
    obtain ⟨h1, h2⟩ := List.pairwise_cons.mp h
    unfold insI
    split
    · rename_i hx
      refine List.pairwise_cons.mpr ⟨fun z hz => ?_, h⟩
      rcases List.mem_cons.mp hz with e | hz
      · rw [e]; exact hx
      · exact Int.lt_trans hx (h1 z hz)
    · split
      · exact h
      · rename_i hx hy
        refine List.pairwise_cons.mpr ⟨fun z hz => ?_, sorted_insI h2⟩
        rcases mem_insI.mp hz with hz | e
        · exact h1 z hz
        · omega
theorem len_insI {x : Int} : ∀ {l : List Int}, l.Pairwise (· < ·) → (insI x l).length = if x ∈ l then l.length else l.length + 1
  | [], _ => by simp [insI]
  | y :: r, h => by
    obtain ⟨h1, h2⟩ := List.pairwise_cons.mp h
    unfold insI
    split
    · rename_i hx
      have : x ∉ y :: r := fun hm => by
        rcases List.mem_cons.mp hm with e | hm
        · omega
        · have := h1 x hm; omega
      rw [if_neg this]; rfl
    · split
      · rename_i hx hy
        rw [if_pos (by simp [hy])]
      · rename_i hx hy
        rw [List.length_cons, len_insI h2]
        have e : (x ∈ y :: r) ↔ x ∈ r := by simp [hy]
        by_cases hm : x ∈ r
        · rw [if_pos hm, if_pos (e.mpr hm)]; rfl
        · rw [if_neg hm, if_neg (fun z => hm (e.mp z))]; rfl
theorem sorted_eq : ∀ {l m : List Int}, l.Pairwise (· < ·) → m.Pairwise (· < ·) → (∀ k, k ∈ l ↔ k ∈ m) → l = m
  | [], [], _, _, _ => rfl
  | [], y :: m, _, _, h => absurd ((h y).mpr (by simp)) (by simp)
  | x :: l, [], _, _, h => absurd ((h x).mp (by simp)) (by simp)
  | x :: l, y :: m, hl, hm, h => by
    obtain ⟨h1, h2⟩ := List.pairwise_cons.mp hl
    obtain ⟨h3, h4⟩ := List.pairwise_cons.mp hm
    have e : x = y := by
      have a := (h x).mp (by simp)
      have b := (h y).mpr (by simp)
      rcases List.mem_cons.mp a with a | a
      · exact a
      · rcases List.mem_cons.mp b with b | b
        · exact b.symm
        · have := h3 x a; have := h1 y b; omega
    subst e
    rw [sorted_eq h2 h4 fun k => ⟨fun hk => ?_, fun hk => ?_⟩]
    · have := (h k).mp (by simp [hk])
      rcases List.mem_cons.mp this with e | z
      · have := h1 k hk; omega
      · exact z
    · have := (h k).mpr (by simp [hk])
      rcases List.mem_cons.mp this with e | z
      · have := h3 k hk; omega
      · exact z
def siLoop (g : TgM) (mt : M Bool) (me : M D) (vs : List Nat) : List D → List Int → Rho → Option (List Int × Rho)
  | [], acc, ρ => some (acc, ρ)
  | d :: r, acc, ρ => match g d ρ with
    | none => none
    | some ρ2 => match mt ρ2 with
      | some (.val true ρ3) => match me ρ3 with
        | some (.val (.int y) ρ4) => if acc.length < 1000 ∧ noInn ρ4 vs = true then siLoop g mt me vs r (insI y acc) (wipeR ρ4 vs) else none
        | _ => none
      | some (.val false ρ3) => if noInn ρ3 vs = true then siLoop g mt me vs r acc (wipeR ρ3 vs) else none
      | _ => none
def M.sset (ms : M (List D)) (g : TgM) (mt : M Bool) (me : M D) (vs : List Nat) : M Cell := ms.bind fun ds ρ => if noInn ρ vs = true then match siLoop g mt me vs ds [] (wipeR ρ vs) with
  | some (acc, ρ') => if noInn ρ' vs = true ∧ acc.length < 64 then some (.val (.lst (acc.map PyData.int)) (wipeR ρ' vs)) else none
  | none => none else none
section
variable {X : Cx} {G : Gc} {W : WX} {e tg elt iter : Expr} {es ifs : List Expr} {m me : M D} {mt : M Bool} {pos p spos : Pos} {gm : TgM} {vs : List Nat}
def oSet (w : World) (D : Addr) (acc : List Int) : HO := SetO w D (fun k => decide (k ∈ acc)) acc.length
theorem oSet_add {w : World} {D : Addr} {acc : List Int} {y : Int} (h : acc.Pairwise (· < ·)) : SetO w D (fun j => (fun k => decide (k ∈ acc)) j || decide (j = y)) (if (fun k => decide (k ∈ acc)) y = true then acc.length else acc.length + 1) = oSet w D (insI y acc) := by
  unfold oSet
  rw [len_insI h]
  have e1 : (fun j => (fun k => decide (k ∈ acc)) j || decide (j = y)) = fun k => decide (k ∈ insI y acc) := by
    funext j
    rw [Bool.eq_iff_iff]
    simp [mem_insI]
  rw [e1]
  congr 1
  by_cases hm : y ∈ acc <;> simp [hm]
theorem scan_ok : 1000 + 1 ≤ scanBound := by decide
theorem sset_imp {ms : M (List D)} {g : TgM} : ∀ σ H Q, tF G W (M.sset ms g mt me vs) σ H Q → tCB (rSortedSet X.w) (tCons (tSi X.w (tI G W ms) (tPinG G vs g) (tPinT G mt) (tPinD G me) vs) tNil) σ H Q := by
  rintro σ H Q ⟨ρ, f, r, R, hm, hp⟩
  show tI G W ms σ H _
  refine tI_bind R hm (xok hp) fun ds ρ1 J n Gh Y H1 hk R1 x1 wk => ?_
  intro D hD
  split at hk
  · rename_i hn1
    cases el : siLoop g mt me vs ds [] (wipeR ρ1 vs) with
    | none => rw [el] at hk; cases hk
    | some res =>
      rw [el] at hk
      obtain ⟨out, ρ'⟩ := res
      dsimp only at hk
      split at hk
      · rename_i hn2
        cases hk
        have ap := R1.apt hD
        obtain ⟨Rw, xw⟩ := R1.wipe vs hn1
        have e0 : SetO X.w D (fun _ : Int => false) 0 = oSet X.w D [] := by unfold oSet; congr 1
        rw [e0]
        have R2 : Rel (G.pin D (oSet X.w D [])) (L2.wipe σ vs) (L2.upd H1 D (oSet X.w D [])) (wipeR ρ1 vs) f := Rw.toPin hD
        have x2 : Ext (Bad G ρ1 f) H1 (Bad (G.pin D (oSet X.w D [])) (wipeR ρ1 vs) f) (L2.upd H1 D (oSet X.w D [])) := fun a ob hb e => by
          obtain ⟨h1, h2⟩ := xw a ob hb e
          exact ⟨fun z => (bad_pin.mp z).elim h1 (ne_of_none e hD), same_upd hD _ _ e⟩
        refine ⟨fun i m H2 => m = n - i ∧ i ≤ n ∧ ∃ (ρ2 : Rho) (acc : List Int), acc.Pairwise (· < ·) ∧ Rel (G.pin D (oSet X.w D acc)) (L2.wipe σ vs) H2 ρ2 f ∧ siLoop g mt me vs (ds.drop i) acc ρ2 = some (out, ρ') ∧ Ext (Bad G ρ1 f) H1 (Bad (G.pin D (oSet X.w D acc)) ρ2 f) H2,
          ⟨n, by simp, Nat.zero_le _, _, [], .nil, R2, by simpa using el, x2⟩, ?_⟩
        rintro i m H2 ⟨rfl, hi, ρ2, acc, so, R3, hl, x3⟩
        have hG := wk.keep _ _ x3
        by_cases hlt0 : i < n
        · refine .inr ⟨wk.walk.goes i H2 hlt0 hG, fun H2 => i + 1 ≤ n ∧ ∃ (ρ2 : Rho) (acc : List Int), acc.Pairwise (· < ·) ∧ Rel (G.pin D (oSet X.w D acc)) (L2.wipe σ vs) H2 ρ2 f ∧ siLoop g mt me vs (ds.drop (i + 1)) acc ρ2 = some (out, ρ') ∧ Ext (Bad G ρ1 f) H1 (Bad (G.pin D (oSet X.w D acc)) ρ2 f) H2,
            fun H' p' => ⟨n - (i + 1), by omega, rfl, p'.1, p'.2⟩, fun x H3 y => ?_⟩
          have y := wk.walk.yields i H2 x H3 hlt0 hG y
          have hlt : i < ds.length := by rw [wk.len]; exact hlt0
          rw [List.drop_eq_getElem_cons hlt] at hl
          obtain ⟨s3, hx⟩ := wk.item i ds[i] (Bad (G.pin D (oSet X.w D acc)) ρ2 f) H2 x H3 (List.getElem?_eq_getElem hlt) x3 (fun p h => R3.free h) y
          have R4 := R3.same s3
          simp only [siLoop] at hl
          cases eg : g ds[i] ρ2 with
          | none => rw [eg] at hl; cases hl
          | some ρ3 =>
            rw [eg] at hl
            dsimp only at hl
            refine ⟨D, oSet X.w D acc, ρ2, f, ds[i], ρ3, R4, hx, eg, fun σ5 w5 R5 x5 => ⟨by rw [w5]; exact wipe_wipe, ?_⟩⟩
            have w5' : L2.wipe σ5 vs = L2.wipe σ vs := w5.trans wipe_wipe
            cases et : mt ρ3 with
            | none => rw [et] at hl; cases hl
            | some rt =>
              rw [et] at hl
              cases rt with
              | exc c ρ4 => cases hl
              | val b ρ4 =>
                refine ⟨D, oSet X.w D acc, ρ3, f, _, R5, et, fun H6 R6 x6 => ?_⟩
                have xx6 := ((x3.trans (Ext.same s3)).trans x5).trans x6
                cases b with
                | false =>
                  show if false = true then _ else _
                  rw [if_neg Bool.false_ne_true]
                  dsimp only at hl
                  split at hl
                  · rename_i hn
                    obtain ⟨R7, x7⟩ := wipe_rel R6 hn w5'
                    exact ⟨hlt0, _, acc, so, R7, hl, xx6.trans x7⟩
                  · cases hl
                | true =>
                  show if true = true then _ else _
                  rw [if_pos rfl]
                  dsimp only at hl
                  cases ev : me ρ4 with
                  | none => rw [ev] at hl; cases hl
                  | some rv =>
                    rw [ev] at hl
                    cases rv with
                    | exc c ρ5 => cases hl
                    | val yd ρ5 =>
                      cases yd <;> try (cases hl)
                      rename_i yi
                      dsimp only at hl
                      split at hl
                      · rename_i hn
                        refine ⟨D, oSet X.w D acc, ρ4, f, _, R6, ev, fun yv H7 R7 x7 hy => ?_⟩
                        refine ⟨yi, _, _, hy.int_inv, R7.at ap, Nat.lt_of_lt_of_le (Nat.succ_lt_succ hn.1) scan_ok, ?_⟩
                        rw [oSet_add so]
                        obtain ⟨R8, x8⟩ := wipe_rel R7 hn.2 w5'
                        have R9 := R8.repin (o' := oSet X.w D (insI yi acc)) ap
                        have x9 : Ext (Bad (G.pin D (oSet X.w D acc)) (wipeR ρ5 vs) f) H7 (Bad (G.pin D (oSet X.w D (insI yi acc))) (wipeR ρ5 vs) f) (L2.upd H7 D (oSet X.w D (insI yi acc))) := fun a ob hb e => by
                          have hne : a ≠ D := fun z => hb (bad_pin.mpr (.inr z))
                          exact ⟨fun z => hb (bad_pin.mpr (bad_pin.mp z)), by rw [upd_ne hne]; exact e⟩
                        exact ⟨hlt0, _, _, sorted_insI so, R9, hl, ((xx6.trans x7).trans x8).trans x9⟩
                      · cases hl
        · have e : i = n := by omega
          subst e
          rw [← wk.len, List.drop_length] at hl
          cases hl
          refine .inl ⟨wk.walk.stops H2 hG, ?_⟩
          obtain ⟨R4, x4⟩ := slots_back R3 hn2.1
          have RP := R4.unpin ap
          have R5 : Rel G σ H2 (wipeR ρ' vs) f := RP.minus ⟨ap.a, ap.h0, fun i b c e => R4.nf ap e⟩ (fun i c e => ap.inn _ (RP.inn i c e).1) ap.t
          refine ⟨D, _, _, rfl, R3.at ap, hn2.2, fun ns q hs hmem hlen hq => ?_⟩
          have ens : ns = out := sorted_eq hs so fun k => (hmem k).trans decide_eq_true_iff
          subst ens
          refine hp q _ (.mk' R5 hq (same_upd hq) ⟨ns.map V.int, upd_same, HasL.ints ns⟩) fun a ob hb e => ?_
          obtain ⟨h1, h2⟩ := ((x1.trans x3).trans x4) a ob hb e
          exact ⟨fun z => z.elim (fun z => h1 (bad_pin.mpr (.inl z))) (ne_of_none h2 hq), same_upd hq _ _ h2⟩
      · cases hk
  · cases hk
theorem df_sset {ms : M (List D)} {g : TgM} {scope : Scope} {p2 : Pos} (own : List (Str × Nat)) (hc : X.calm = true) (hN : X.N.Nodup) (ok : BlkOk X.N X.env.scope scope own) (hm : X.mg "sorted" = none) (hi : DI X G W tg iter ms)
    (hg : ∀ (s : Shared) (H : Hp) (C : Addr) (cl : List (Str × Addr)) (fp : List Addr) (p : Addr) (o : HO), DGv (X.blk s H scope (compEnvC scope cl C X.env) fp) (G.pin p o) (own.map (·.2)) tg g)
    (ht : ∀ (s : Shared) (H : Hp) (C : Addr) (cl : List (Str × Addr)) (fp : List Addr) (p : Addr) (o : HO), DTs (X.blk s H scope (compEnvC scope cl C X.env) fp) (G.pin p o) F0 ifs mt)
    (he : ∀ (s : Shared) (H : Hp) (C : Addr) (cl : List (Str × Addr)) (fp : List Addr) (p : Addr) (o : HO), DE (X.blk s H scope (compEnvC scope cl C X.env) fp) (G.pin p o) F0 elt me)
    (hs : ∀ x, foldedSetIterable iter X.env x = pure x := by intro _; rfl) (hgl : Gl X "sorted" := by rfl)
    (hst : starEach [.SetComp elt [⟨tg, iter, ifs, 0⟩] scope pos] X.env = (false, eval (.SetComp elt [⟨tg, iter, ifs, 0⟩] scope pos) X.env) :: starEach [] X.env := by rfl) :
    DF X G W (.Call (.Name "sorted" p) [.SetComp elt [⟨tg, iter, ifs, 0⟩] scope pos] [] p2) (M.sset ms g mt me (own.map (·.2))) :=
  imp (pe_callB (cr_sortedSet hc) hgl hm (by rfl) (pa_cons (pe_si hc hN hi ok (fun s H C cl fp => pin_g (hg s H C cl fp)) (fun s H C cl fp => pin_t (ht s H C cl fp)) (fun s H C cl fp => pin_d (he s H C cl fp)) hs) pa_nil hst) (by decide) (by decide) hst (by rfl)) sset_imp
end
end DL
namespace DL
open PySem PySem.Spec PyProof.Rows L2

/-! ### dicts -/
/-- in its place, or at the end -/
def putD {κ : Type} [DecidableEq κ] (kvs : List (κ × D)) (k : κ) (v : D) : List (κ × D) :=
  if (kvs.any fun kv => decide (kv.1 = k)) = true then kvs.map (fun kv => if kv.1 = k then (kv.1, v) else kv) else kvs ++ [(k, v)]
def mergeD (kvs : List (Key × D)) (more : List (Key × D)) : List (Key × D) := more.foldl (fun acc kv => putD acc kv.1 kv.2) kvs
/-- data as a key -/
def keyOf : D → Option Key
  | .int i => some (.inl i)
  | .str x => some (.inr x)
  | _ => none
theorem keyOf_inv {d : D} {k : Key} (h : keyOf d = some k) : d = keyD k := by
  cases d <;> cases h <;> rfl
def pairsOf : List D → Option (List (Key × D))
  | [] => some []
  | .tuple [k, v] :: r => match keyOf k, pairsOf r with
    | some k, some ps => some ((k, v) :: ps)
    | _, _ => none
  | _ => none
def dictOf : D → Option Cell
  | .list ps => match pairsOf ps with
    | some kvs => some (.dK (mergeD [] kvs))
    | none => none
  | _ => none
section
variable {K : PySem.W.Frag} {B : Addr → Prop} {H : Hp}
theorem Has.key {v : V} {k : Key} (h : Has K B H v (keyD k)) : v = kV k := by
  cases k with
  | inl i => exact h.int_inv
  | inr x => exact h.str_inv
theorem has_key (k : Key) : Has K B H (kV k) (keyD k) := by
  cases k with
  | inl i => exact .int i
  | inr x => exact .str x
/-- pairs and their data -/
def HasKV {κ : Type} (K : PySem.W.Frag) (B : Addr → Prop) (H : Hp) (kv' : List (κ × V)) (kvs : List (κ × D)) : Prop := kv'.map (·.1) = kvs.map (·.1) ∧ HasL K B H (kv'.map (·.2)) (kvs.map (·.2))
theorem HasKV.nil {κ : Type} : HasKV (κ := κ) K B H [] [] := ⟨rfl, .nil⟩
theorem HasKV.cons {κ : Type} {k : κ} {v : V} {d : D} {a : List (κ × V)} {b : List (κ × D)} (h : Has K B H v d) (t : HasKV K B H a b) : HasKV K B H ((k, v) :: a) ((k, d) :: b) := ⟨by simp [t.1], .cons h t.2⟩
theorem HasKV.ind {κ : Type} {motive : List (κ × V) → List (κ × D) → Prop} (h0 : motive [] []) (h1 : ∀ k v d a b, Has K B H v d → HasKV K B H a b → motive a b → motive ((k, v) :: a) ((k, d) :: b)) : ∀ {a : List (κ × V)} {b : List (κ × D)}, HasKV K B H a b → motive a b
  | [], [], _ => h0
  | [], _ :: _, h => by cases h.1
  | _ :: _, [], h => by cases h.1
  | (k, v) :: a, (k', d) :: b, h => by
    obtain ⟨e, hh⟩ := h
    simp only [List.map_cons, List.cons.injEq] at e
    obtain ⟨e1, e2⟩ := e
    subst e1
    cases hh with
    | cons p q => exact h1 _ _ _ _ _ p ⟨e2, q⟩ (HasKV.ind h0 h1 ⟨e2, q⟩)
theorem HasKV.append {κ : Type} {a a' : List (κ × V)} {b b' : List (κ × D)} (h : HasKV K B H a b) (h' : HasKV K B H a' b') : HasKV K B H (a ++ a') (b ++ b') :=
  ⟨by rw [List.map_append, List.map_append, h.1, h'.1], by rw [List.map_append, List.map_append]; exact h.2.append h'.2⟩
theorem HasKV.put {κ : Type} [DecidableEq κ] {a : List (κ × V)} {b : List (κ × D)} {k : κ} {v : V} {d : D} (h : HasKV K B H a b) (hv : Has K B H v d) : HasKV K B H (putK a k v) (putD b k d) := by
  have any : (a.any fun kv => decide (kv.1 = k)) = b.any fun kv => decide (kv.1 = k) :=
    HasKV.ind (motive := fun a b => (a.any fun kv => decide (kv.1 = k)) = b.any fun kv => decide (kv.1 = k)) rfl (fun k v d a b _ _ e => by simp only [List.any_cons, e]) h
  unfold putK putD
  rw [any]
  split
  · exact HasKV.ind (motive := fun a b => HasKV K B H (a.map fun kv => if kv.1 = k then (kv.1, v) else kv) (b.map fun kv => if kv.1 = k then (kv.1, d) else kv)) .nil (fun k' v' d' a b h1 _ e => by
      simp only [List.map_cons]
      by_cases hk : k' = k
      · rw [if_pos hk, if_pos hk]; exact .cons hv e
      · rw [if_neg hk, if_neg hk]; exact .cons h1 e) h
  · exact h.append (.cons hv .nil)
theorem HasKV.merge {a : List (Key × V)} {b : List (Key × D)} {m : List (Key × V)} {n : List (Key × D)} (h' : HasKV K B H m n) : HasKV K B H a b → HasKV K B H (mergeK a m) (mergeD b n) := by
  revert a b
  exact HasKV.ind (motive := fun m n => ∀ {a : List (Key × V)} {b : List (Key × D)}, HasKV K B H a b → HasKV K B H (mergeK a m) (mergeD b n)) (fun h => h) (fun k v d a b h1 _ ih {a' b'} h => by
    show HasKV K B H (mergeK (putK a' k v) a) (mergeD (putD b' k d) b)
    exact ih (h.put h1)) h'
theorem HasKV.ext {κ : Type} {B' : Addr → Prop} {H' : Hp} {a : List (κ × V)} {b : List (κ × D)} (x : Ext B H B' H') (h : HasKV K B H a b) : HasKV K B' H' a b := ⟨h.1, h.2.ext x⟩
theorem sqT_of {a : Addr} {xs : List V} (h : (¬ B a ∧ Rd H a (.tup xs)) ∨ KT K a xs) : SqT K H a xs := h.elim (fun h => .inl h.2) .inr
theorem pairs_ok : ∀ {vs : List V} {ds : List D} {kvs : List (Key × D)}, HasL K B H vs ds → pairsOf ds = some kvs → ∃ (ps : List Addr) (kv' : List (Key × V)), vs = ps.map V.ref ∧ Paired (fun p kv => SqT K H p [kV kv.1, kv.2]) ps kv' ∧ HasKV K B H kv' kvs
  | _, _, _, .nil, e => by cases e; exact ⟨[], [], rfl, .nil, .nil⟩
  | _, d :: r, kvs, .cons h t, e => by
    cases d <;> try (cases e)
    rename_i xs
    match xs, e with
    | [k, v], e =>
      simp only [pairsOf] at e
      cases ek : keyOf k with
      | none => rw [ek] at e; cases e
      | some kk =>
        cases ep : pairsOf r with
        | none => rw [ek, ep] at e; cases e
        | some ps0 =>
          rw [ek, ep] at e
          cases e
          obtain ⟨ps, kv', e1, e2, e3⟩ := pairs_ok t ep
          obtain ⟨a, ws, rfl, r1, s1, h1⟩ := h.tup_inv
          cases keyOf_inv ek
          cases h1 with
          | cons p1 q1 =>
            cases q1 with
            | cons p2 q2 =>
              cases q2
              cases p1.key
              exact ⟨a :: ps, (kk, _) :: kv', by rw [e1]; rfl, .cons s1 e2, .cons p2 e3⟩
end
section
variable {X : Cx} {G : Gc} {W : WX} {e tg : Expr} {m : M D} {mc : M Cell} {pos p : Pos}
theorem cb_dict (hc : X.calm = true) : CallR X (.type "dict") (rB1F X.K dictOf) := by
  rintro pins s σ H xs us Q I r ⟨B, x, d, z, hf, rfl, hx, hg, q⟩
  cases d <;> try (cases hg)
  rename_i ds
  simp only [dictOf] at hg
  cases ep : pairsOf ds with
  | none => rw [ep] at hg; cases hg
  | some kvs =>
    rw [ep] at hg
    cases hg
    obtain ⟨a, vs, rfl, _, hq, h3⟩ := hx.lst
    obtain ⟨ps, kv', rfl, e2, e3⟩ := pairs_ok h3 ep
    refine call_dictP hc pins s σ H _ us Q I r ⟨a, ps, kv', rfl, hq, e2, fun l hl => q l _ (same_upd hl) hl ?_⟩
    have x1 : Ext B H (fun a => B a ∨ a = l) (L2.upd H l (.dK (mergeK [] kv'))) := Ext.fresh hl (same_upd hl)
    exact ⟨_, upd_same, HasKV.merge (e3.ext x1) .nil⟩

/-! ### a new dict that is walked -/
theorem NewAt.pin {σ : L2.St} {H : Hp} {ρ : Rho} {f : Nat → Addr} {q : Addr} {c : Cell} {o : HO} (N : NewAt G σ H ρ f q c) (e : H q = some o) : Rel (G.pin q o) σ H ρ f ∧ Apt G q := by
  have ap : Apt G q := ⟨N.fr.a, N.fr.h0, fun z => (N.rel.dom.2 q z).2.not N.ok, fun w hw => by
    obtain ⟨c, e1, e2⟩ := N.rel.innB w hw
    rw [← e2]
    exact (N.rel.inn _ _ e1).2⟩
  have R := N.relP
  refine ⟨⟨R.len, fun a o' e' hn ht => ?_, R.dom, fun i c e => ⟨(R.own i c e).1, ?_⟩, R.inj, R.inn, R.innB, fun i s e => ?_⟩, ap⟩
  · by_cases ha : a = q
    · subst ha
      rw [show (G.pin a o).H0 a = some o from upd_same] at e'
      cases e'
      exact e
    · rw [show (G.pin q o).H0 a = G.H0 a from upd_ne ha] at e'
      exact R.keep a o' e' hn ht
  · rw [show (G.pin q o).H0 (f i) = G.H0 (f i) from upd_ne fun z => (R.own i c e).1 (.inr z)]
    exact (R.own i c e).2
  · obtain ⟨v, e1, h⟩ := R.sl i s e
    exact ⟨v, e1, SlOk.pin (SlOk.minus h)⟩
def tFrz (t : TE) : TE := fun σ H Q => t σ H fun x H1 => ∃ d u, x = .ref d ∧ H1 d = some u ∧ Mut (some u) ∧ ∀ od, Q x (L2.upd H1 d (.frz od u))
theorem pe_frz {t : TE} (h : PE X e t) : PE X e (tFrz t) := ⟨fun pins s σ H Q I hq => thn (h.run pins s σ H _ I hq) fun v s1 ⟨x, H1, I1, r1, d, u, e1, e2, mu, q⟩ => by
  obtain ⟨od, I2⟩ := I1.lock e2 mu
  exact ⟨x, _, I2, r1, q od⟩⟩
def keysC : Cell → Option (List D)
  | .dK kvs => some (kvs.map fun kv => keyD kv.1)
  | _ => none
def M.keysF (m : M Cell) : M (List D) := m.bind fun c => .lift (keysC c)
theorem tF_bind {α : Type} {m : M Cell} {k : Cell → M α} {σ : L2.St} {H : Hp} {ρ : Rho} {f : Nat → Addr} {r : R α} {Q : VK} (Rl : Rel G σ H ρ f) (h : M.bind m k ρ = some r) (hx : ∀ c ρ', r = .exc c ρ' → XP G W σ c ρ' f)
    (hk : ∀ d ρ' p H', k d ρ' = some r → NewAt G σ H' ρ' f p d → Ext (Bad G ρ f) H (fun a => Bad G ρ' f a ∨ a = p) H' → Q (.ref p) H') : tF G W m σ H Q := by
  rcases bind_inv h with ⟨c, ρ', e1, e2⟩ | ⟨d, ρ', e1, e2⟩
  · exact ⟨ρ, f, _, Rl, e1, hx c ρ' e2⟩
  · exact ⟨ρ, f, _, Rl, e1, fun v H' N x => hk d ρ' v H' e2 N x⟩
theorem di_keysF (h : DF X G W e mc) : DI X G W tg e (M.keysF mc) := by
  refine impI (pi_keys (pe_frz h)) ?_
  rintro σ H Rr ⟨ρ, f, r, R, hm, hp⟩
  unfold iKeys tFrz
  refine tF_bind R hm (xok hp) fun c ρ1 q H1 hk1 N x1 => ?_
  obtain ⟨ds, e, er⟩ := lift_inv hk1
  subst er
  cases c <;> try (cases e)
  rename_i kvs
  obtain ⟨kv', h1, h2, h3⟩ := N.ok
  refine ⟨q, _, rfl, h1, trivial, fun od => ⟨q, od, rfl, .inl ⟨kv', upd_same, ?_⟩⟩⟩
  obtain ⟨RP, ap⟩ := N.pin h1
  have R1 := RP.repin (o' := .frz od (.dK kv')) ap
  have RU := R1.unpin ap
  have R2 : Rel G σ (L2.upd H1 q (.frz od (.dK kv'))) ρ1 f := RU.minus ⟨ap.a, ap.h0, fun i b c e => R1.nf ap e⟩ (fun i c e => ap.inn _ (RU.inn i c e).1) ap.t
  have x2 : Ext (Bad G ρ f) H (Bad G ρ1 f) (L2.upd H1 q (.frz od (.dK kv'))) := fun a ob hb e => by
    obtain ⟨g1, g2⟩ := x1 a ob hb e
    exact ⟨fun z => g1 (.inl z), by rw [upd_ne fun z => g1 (.inr z)]; exact g2⟩
  have hl : kv'.length = kvs.length := by simpa using congrArg List.length h2
  refine hp _ _ _ _ _ R2 x2 ⟨by rw [List.length_map, hl], walk_keys, fun B' H' x => (x q _ N.fr.bad upd_same).2, fun i d B' H2 x H3 e x2 hf y => ?_⟩
  obtain ⟨rfl, k, v, e1, rfl⟩ := y
  refine ⟨Same.refl _, ?_⟩
  rw [List.getElem?_map] at e
  have e3 : kvs[i]?.map (·.1) = some k := by
    have : (kvs.map (·.1))[i]? = some k := by rw [← h2, List.getElem?_map, e1]; rfl
    rwa [List.getElem?_map] at this
  cases ek : kvs[i]? with
  | none => rw [ek] at e3; cases e3
  | some kv =>
    rw [ek] at e3 e
    cases e3
    cases e
    exact has_key _
end
end DL
namespace DL
open PySem PySem.Spec PyProof.Rows L2

def mulID := intD okMul fun i j => i * j
section
variable {X : Cx} {G : Gc} {W : WX} {a b e : Expr} {es : List Expr} {m ma mb : M D} {mc : M Cell} {pos : Pos}
theorem de_mul (ha : DE X G W a ma) (hb : DK X G W b mb) (hk : X.K = G.K := by rfl) : DE X G W (.BinOp a .Mult b pos) (M.bin mulID ma mb) :=
  de_op op_mulW (od_int fun i j h => by simpa [okMul, CMulW] using h) ha hb hk

/-! ### a, b = x, y -/
theorem NewAt.putD {σ : L2.St} {H : Hp} {ρ : Rho} {f : Nat → Addr} {p : Addr} {c : Cell} {i : Nat} {v : V} {d : D} (N : NewAt G σ H ρ f p c) (hi : isInn ρ i = false) (h : Has G.K (fun a => Bad G ρ f a ∨ a = p) H v d) :
    NewAt G (σ.set i (some v)) H (ρ.set i (some (.dat d))) f p c ∧ Ext (fun a => Bad G ρ f a ∨ a = p) H (fun a => Bad G (ρ.set i (some (.dat d))) f a ∨ a = p) H := by
  obtain ⟨R1, x1⟩ := N.rel.putD (i := i) hi (h.ext fun a o hb e => ⟨fun z => hb (.inl z), e⟩)
  obtain ⟨R2, x2⟩ := N.relP.putD (i := i) hi (h.ext fun a o hb e => ⟨fun z => hb (bad_plus.mp z), e⟩)
  have x : Ext (fun a => Bad G ρ f a ∨ a = p) H (fun a => Bad G (ρ.set i (some (.dat d))) f a ∨ a = p) H := fun a o hb e => ⟨fun z => z.elim (x1 a o (fun z => hb (.inl z)) e).1 fun z => hb (.inr z), e⟩
  refine ⟨⟨R1, R2, ⟨N.fr.a, N.fr.h0, fun j b c' e => ?_⟩, N.ok.ext x rfl⟩, x⟩
  rcases get_set e with ⟨_, e2, _⟩ | ⟨_, e2⟩
  · cases e2
  · exact N.fr.m j b c' e2
/-- both data -/
def S.par (i j : Nat) (ma mb : M D) : SS := S.of ma fun x => S.of mb fun y ρ => if isInn ρ i = true ∨ isInn ρ j = true ∨ i = j then none else some (.nx ((ρ.set i (some (.dat x))).set j (some (.dat y))))
/-- the second a new object -/
def S.parDF (i j : Nat) (ma : M D) (mc : M Cell) : SS := S.of ma fun x => S.of mc fun y ρ => if isInn ρ i = true ∨ isInn ρ j = true ∨ i = j then none else some (.nx ((ρ.set i (some (.dat x))).set j (some (.mut true y))))
theorem isInn_set {ρ : Rho} {i j : Nat} {d : D} (h : isInn ρ j = false) : isInn (ρ.set i (some (.dat d))) j = false := by
  unfold isInn at h ⊢
  cases e : (ρ.set i (some (.dat d)))[j]? with
  | none => rfl
  | some s =>
    cases s with
    | none => rfl
    | some s =>
      rcases get_set e with ⟨_, e2, _⟩ | ⟨_, e2⟩
      · cases e2; rfl
      · rw [e2] at h; exact h
variable {x y : Str} {px py pt pt2 : Pos} {kt k2 : Nat}
theorem ds_par (i j : Nat) (hc : X.calm = true) (hN : X.N.Nodup) (ha : DE X G W a ma) (hb : DE X G W b mb) (hi : X.N[i]? = some x := by rfl) (hj : X.N[j]? = some y := by rfl) (hij : i ≠ j := by decide)
    (hx : X.env.scope.names.lookup x = some .local := by rfl) (hy : X.env.scope.names.lookup y = some .local := by rfl) (hs1 : starEach [a, b] X.env = (false, eval a X.env) :: starEach [b] X.env := by rfl) (hs2 : starEach [b] X.env = (false, eval b X.env) :: starEach [] X.env := by rfl)
    (hw : swappedStores [.Tuple [.Name x px, .Name y py] kt pt] (.Tuple [a, b] k2 pt2) X.env = pure (some [x, y]) := by rfl)
    (hs : swapsWithSole [.Tuple [.Name x px, .Name y py] kt pt] (.Tuple [a, b] k2 pt2) pos.line X.env = pure false := by rfl) :
    DS X G W (.Assign [.Tuple [.Name x px, .Name y py] kt pt] (.Tuple [a, b] k2 pt2) pos) (S.par i j ma mb) := by
  refine impS (ps_par hc hN hi hj hij hx hy (pa_cons ha (pa_cons hb pa_nil hs2) hs1) hw hs) ?_
  rintro E σ H ⟨ρ, f, r, R, hm, hp⟩
  show tD G W ma σ H _
  refine tD_of (α := D) R hm hp fun d ρ1 v H1 hk R1 x1 hv => ?_
  refine tD_of (α := D) R1 hk (hp.mono x1) fun d2 ρ2 w H2 hk2 R2 x2 hw => ?_
  split at hk2
  · cases hk2
  · rename_i hn
    cases hk2
    simp only [not_or, Bool.not_eq_true] at hn
    obtain ⟨R3, x3⟩ := R2.putD (i := i) hn.1 (hv.ext x2)
    obtain ⟨R4, x4⟩ := R3.putD (i := j) (isInn_set hn.2.1) (hw.ext x3)
    exact ⟨v, w, rfl, hp _ _ _ R4 (((x1.trans x2).trans x3).trans x4)⟩
theorem ds_parDF (i j : Nat) (hc : X.calm = true) (hN : X.N.Nodup) (ha : DE X G W a ma) (hb : DF X G W b mc) (hi : X.N[i]? = some x := by rfl) (hj : X.N[j]? = some y := by rfl) (hij : i ≠ j := by decide)
    (hx : X.env.scope.names.lookup x = some .local := by rfl) (hy : X.env.scope.names.lookup y = some .local := by rfl) (hs1 : starEach [a, b] X.env = (false, eval a X.env) :: starEach [b] X.env := by rfl) (hs2 : starEach [b] X.env = (false, eval b X.env) :: starEach [] X.env := by rfl)
    (hw : swappedStores [.Tuple [.Name x px, .Name y py] kt pt] (.Tuple [a, b] k2 pt2) X.env = pure (some [x, y]) := by rfl)
    (hs : swapsWithSole [.Tuple [.Name x px, .Name y py] kt pt] (.Tuple [a, b] k2 pt2) pos.line X.env = pure false := by rfl) :
    DS X G W (.Assign [.Tuple [.Name x px, .Name y py] kt pt] (.Tuple [a, b] k2 pt2) pos) (S.parDF i j ma mc) := by
  refine impS (ps_par hc hN hi hj hij hx hy (pa_cons ha (pa_cons hb pa_nil hs2) hs1) hw hs) ?_
  rintro E σ H ⟨ρ, f, r, R, hm, hp⟩
  show tD G W ma σ H _
  refine tD_of (α := D) R hm hp fun d ρ1 v H1 hk R1 x1 hv => ?_
  refine tF_of R1 hk (hp.mono x1) fun c ρ2 p H2 hk2 N x2 => ?_
  split at hk2
  · cases hk2
  · rename_i hn
    cases hk2
    simp only [not_or, Bool.not_eq_true] at hn
    obtain ⟨N3, x3⟩ := N.putD (i := i) hn.1 (hv.ext x2)
    obtain ⟨f', R4, sub⟩ := N3.put (i := j) (isInn_set hn.2.1)
    refine ⟨v, .ref p, rfl, hp _ _ f' R4 fun a o hb e => ?_⟩
    obtain ⟨g1, g2⟩ := x1 a o hb e
    obtain ⟨g3, g4⟩ := x2 a o g1 g2
    exact ⟨fun z => (x3 a o g3 g4).1 (sub a z), g4⟩

theorem NewAt.same {σ : L2.St} {H H' : Hp} {ρ : Rho} {f : Nat → Addr} {p : Addr} {c : Cell} (N : NewAt G σ H ρ f p c) (s : Same H H') : NewAt G σ H' ρ f p c :=
  ⟨N.rel.same s, N.relP.same s, N.fr, N.ok.ext (Ext.same s) (by
    obtain ⟨o, e⟩ := N.ok.at
    rw [e]
    exact s _ _ e)⟩
/-- .. where a name is a cell: by way of the tuple -/
theorem ds_parDFc (i j : Nat) (hc : X.calm = true) (hN : X.N.Nodup) (ha : DE X G W a ma) (hb : DF X G W b mc) (hi : X.N[i]? = some x := by rfl) (hj : X.N[j]? = some y := by rfl)
    (hx : Loc X.env.scope x := by first | exact Or.inl rfl | exact Or.inr rfl) (hy : Loc X.env.scope y := by first | exact Or.inl rfl | exact Or.inr rfl)
    (hfx : X.fn x = true ∨ X.env.scope.names.lookup x = some .local := by first | exact .inl rfl | exact .inr rfl) (hfy : X.fn y = true ∨ X.env.scope.names.lookup y = some .local := by first | exact .inl rfl | exact .inr rfl)
    (hs1 : starEach [a, b] X.env = (false, eval a X.env) :: starEach [b] X.env := by rfl) (hs2 : starEach [b] X.env = (false, eval b X.env) :: starEach [] X.env := by rfl)
    (hs : swapsWithSole [.Tuple [.Name x px, .Name y py] kt pt] (.Tuple [a, b] k2 pt2) pos.line X.env = pure false := by rfl) (hw : swappedStores [.Tuple [.Name x px, .Name y py] kt pt] (.Tuple [a, b] k2 pt2) X.env = pure none := by rfl)
    (h1 : (assignEach [.Tuple [.Name x px, .Name y py] kt pt] X.env).map (·.2) = [assign (.Tuple [.Name x px, .Name y py] kt pt) X.env] := by rfl)
    (g1 : (assignEach [.Name x px, .Name y py] X.env).map (·.2) = assign (.Name x px) X.env :: (assignEach [.Name y py] X.env).map (·.2) := by rfl) (g2 : (assignEach [.Name y py] X.env).map (·.2) = assign (.Name y py) X.env :: (assignEach [] X.env).map (·.2) := by rfl)
    (hn : (assignEach [.Name x px, .Name y py] X.env).length = 2 := by rfl) (hst : (assignEach [.Name x px, .Name y py] X.env).findIdx? (·.1) = none := by rfl) :
    DS X G W (.Assign [.Tuple [.Name x px, .Name y py] kt pt] (.Tuple [a, b] k2 pt2) pos) (S.parDF i j ma mc) := by
  refine impS (ps_asg (pe_tup (pa_cons ha (pa_cons hb pa_nil hs2) hs1)) (pg_tup hc (pgs_cons (pg_name hN hi hx hfx) (pgs_cons (pg_name hN hj hy hfy) pgs_nil g2) g1) hn hst) hs hw h1) ?_
  rintro E σ H ⟨ρ, f, r, R, hm, hp⟩
  show tD G W ma σ H _
  refine tD_of (α := D) R hm hp fun d ρ1 v H1 hk R1 x1 hv => ?_
  refine tF_of R1 hk (hp.mono x1) fun c ρ2 p H2 hk2 N x2 => ?_
  split at hk2
  · cases hk2
  · rename_i hn
    cases hk2
    simp only [not_or, Bool.not_eq_true] at hn
    refine ⟨by show 2 ≤ sizeLine; decide, fun q hq => ?_⟩
    have s3 : Same H2 (L2.upd H2 q (.tup [v, .ref p])) := same_upd hq
    have N2 := N.same s3
    obtain ⟨N3, x3⟩ := N2.putD (i := i) hn.1 ((hv.ext x2).same s3)
    obtain ⟨f', R4, sub⟩ := N3.put (i := j) (isInn_set hn.2.1)
    refine ⟨q, [v, .ref p], rfl, .inl (.inl upd_same), rfl, v, [.ref p], rfl, .ref p, [], rfl, rfl, hp _ _ f' R4 fun a o hb e => ?_⟩
    obtain ⟨g1, g2⟩ := x1 a o hb e
    obtain ⟨g3, g4⟩ := x2 a o g1 g2
    exact ⟨fun z => (x3 a o g3 (s3 _ _ g4)).1 (sub a z), s3 _ _ g4⟩

/-! ### x op= e, ints -/
def S.aug (g : D → D → Option D) (i : Nat) (m : M D) : SS := fun ρ => match ρ[i]? with
  | some (some (.dat d)) => S.of m (fun e ρ' => if isInn ρ' i = true then none else match g d e with
    | some z => some (.nx (ρ'.set i (some (.dat z))))
    | none => none) ρ
  | _ => none
theorem ds_aug {op : Operator} {r : R2} {g : D → D → Option D} {pos' : Pos} (i : Nat) (hN : X.N.Nodup) (ho : OpR X (inplaceOp op) r) (hg : OpD X.K r g) (he : DE X G W e m) (hi : X.N[i]? = some x := by rfl) (hx : Loc X.env.scope x := by first | exact Or.inl rfl | exact Or.inr rfl)
    (hf : X.fn x = true ∨ X.env.scope.names.lookup x = some .local := by first | exact .inl rfl | exact .inr rfl | assumption) (hk : X.K = G.K := by rfl) : DS X G W (.AugAssign (.Name x pos') op e pos) (S.aug g i m) := by
  refine impS (ps_aug (ti := r) hN hi hx he (fun pins s σ H x y v u Q I rx ry q => ho pins s σ H x y v u Q I rx ry q) hf) ?_
  rintro E σ H ⟨ρ, f, s, R, hm, hp⟩
  unfold S.aug at hm
  split at hm
  · rename_i d ed
    obtain ⟨v, ev, hv⟩ := R.sl i _ ed
    refine ⟨v, ev, tD_of (α := D) R hm hp fun d2 ρ1 w H1 hk1 R1 x1 hw => ?_⟩
    split at hk1
    · cases hk1
    · rename_i hn
      split at hk1
      · rename_i z ez
        cases hk1
        rw [hk] at hg
        refine hg (Bad G ρ1 f) H1 v w d d2 z _ (fun p h => R1.free h) (.inl (Has.ext x1 hv)) (.inl hw) ez fun u H2 s2 hu => ?_
        obtain ⟨R3, x3⟩ := (R1.same s2).putD (i := i) (by simpa using hn) hu
        exact hp _ _ f R3 ((x1.trans (Ext.same s2)).trans x3)
      · cases hk1
  · cases hm
/-! ### x[e], x a list that is changed -/
def M.ixV (i : Nat) (m : M D) : M D := fun ρ => match mutL ρ i with
  | none => none
  | some _ => M.bind m (fun k ρ' => match mutL ρ' i with
    | some (_, ds) => M.lift (ixD (.list ds) k) ρ'
    | none => none) ρ
theorem de_ixV {x : Str} {px : Pos} (i : Nat) (hb : DE X G W b mb) (hN : X.N[i]? = some x := by rfl) (hv : Vis X.env.scope x := by first | exact Or.inl rfl | exact Or.inr (Or.inl rfl) | exact Or.inr (Or.inr rfl)) (hd : (x == ("__debug__" : Str)) = false := by decide)
    (hcd : (x == ("__classdict__" : Str)) = false := by decide) (hs : PlainIx b := by exact fun _ _ => rfl) (hk : X.K = G.K := by rfl) : DE X G W (.Subscript (.Name x px) b pos) (M.ixV i mb) := by
  refine imp (pe_ix ix_seq (pv i hN hv hd hcd) hb hs) ?_
  rintro σ H Q ⟨ρ, f, r, R, hm, hp⟩
  unfold M.ixV at hm
  cases e0 : mutL ρ i with
  | none => rw [e0] at hm; cases hm
  | some bd =>
    rw [e0] at hm
    dsimp only at hm
    obtain ⟨b0, ds0⟩ := bd
    obtain ⟨e1, _⟩ := R.mutLst e0
    refine ⟨_, e1, tD_bind R hm (xok hp) fun d ρ1 v H1 hk1 R1 x1 hv => ?_⟩
    cases e2 : mutL ρ1 i with
    | none => rw [e2] at hk1; cases hk1
    | some bd =>
      obtain ⟨b1, ds⟩ := bd
      rw [e2] at hk1
      obtain ⟨z, ez, er⟩ := lift_inv hk1
      subst er
      have e3 := mutL_inv e2
      rw [hk]
      exact od_ix (Bad G ρ1 f) H1 (.ref (f i)) v (.list ds) d z Q (fun p h => R1.free h) (.inr ⟨f i, .lst ds, rfl, (R1.mutAt e3).2, rfl⟩) (.inl hv) ez fun w H2 s2 hw => hp w H2 (R1.same s2) (x1.trans (Ext.same s2)) hw
/-! ### an object is data from now on -/
def frzR (ρ : Rho) (i : Nat) : Rho := match ρ[i]? with
  | some (some (.mut true c)) => ρ.set i (some (.dat (cellD c)))
  | _ => ρ
def S.frz (i : Nat) : SS := fun ρ => some (.nx (frzR ρ i))
theorem Rel.frz {σ : L2.St} {H : Hp} {ρ : Rho} {f : Nat → Addr} (R : Rel G σ H ρ f) (i : Nat) : Rel G σ H (frzR ρ i) f ∧ Ext (Bad G ρ f) H (Bad G (frzR ρ i) f) H := by
  unfold frzR
  split
  · rename_i c e
    obtain ⟨R', x, _⟩ := R.freeze e
    exact ⟨R', x⟩
  · exact ⟨R, Ext.refl _ _⟩
theorem ds_frz {st : Stmt} {n : SS} (i : Nat) (h : DS X G W st n) : DS X G W st (S.seq n (S.frz i)) := impS h fun E σ H ⟨ρ, f, r, R, hm, hp⟩ => by
  unfold S.seq at hm
  cases e : n ρ with
  | none => rw [e] at hm; cases hm
  | some q =>
    rw [e] at hm
    refine ⟨ρ, f, q, R, e, ?_⟩
    cases q with
    | nx ρ1 =>
      cases hm
      intro σ' H' f' R' x'
      obtain ⟨R2, x2⟩ := R'.frz i
      exact hp σ' H' f' R2 (x'.trans x2)
    | ret d ρ1 => cases hm; exact hp
    | retF d ρ1 => cases hm; exact hp
    | brk ρ1 => cases hm; exact hp
    | ct ρ1 => cases hm; exact hp
    | exc c ρ1 => cases hm; exact hp
end
end DL
namespace DL
open PySem PySem.Spec PyProof.Rows L2
/-! ### a, b, .. = xs, xs a list that is changed -/
def S.unpL (i n : Nat) (g : List D → Rho → Option Rho) : SS := fun ρ => match mutL ρ i with
  | some (_, ds) => if ds.length = n then match g ds ρ with
    | some ρ' => some (.nx ρ')
    | none => none else none
  | none => none
section
variable {X : Cx} {G : Gc} {W : WX} {es : List Expr} {pos pt px : Pos} {gr : List D → Rho → Option Rho} {kk l : Nat} {x : Str}
theorem ds_unpL (i : Nat) (hc : X.calm = true) (h : DGs X G es gr) (hN : X.N[i]? = some x := by rfl) (hv : Vis X.env.scope x := by first | exact Or.inl rfl | exact Or.inr (Or.inl rfl) | exact Or.inr (Or.inr rfl)) (hd : (x == ("__debug__" : Str)) = false := by decide)
    (hcd : (x == ("__classdict__" : Str)) = false := by decide) (hn : (assignEach es X.env).length = l := by rfl) (hst : (assignEach es X.env).findIdx? (·.1) = none := by rfl) (hk : X.K = G.K := by rfl)
    (hs : swapsWithSole [.Tuple es kk pt] (.Name x px) pos.line X.env = pure false := by rfl) (hw : swappedStores [.Tuple es kk pt] (.Name x px) X.env = pure none := by rfl)
    (h1 : (assignEach [.Tuple es kk pt] X.env).map (·.2) = [assign (.Tuple es kk pt) X.env] := by rfl) : DS X G W (.Assign [.Tuple es kk pt] (.Name x px) pos) (S.unpL i l gr) := by
  refine impS (ps_asg (pv i hN hv hd hcd) (pg_unl hc h hn hst) hs hw h1) ?_
  rintro E σ H ⟨ρ, f, r, R, hm, hp⟩
  unfold S.unpL at hm
  cases e0 : mutL ρ i with
  | none => rw [e0] at hm; cases hm
  | some bd =>
    obtain ⟨b, ds⟩ := bd
    rw [e0] at hm
    dsimp only at hm
    obtain ⟨e1, vs, e2, hv2⟩ := R.mutLst e0
    split at hm
    · rename_i hl
      cases e : gr ds ρ with
      | none => rw [e] at hm; cases hm
      | some ρ2 =>
        rw [e] at hm
        cases hm
        refine ⟨_, e1, f i, vs, rfl, .inl (.inl e2), by rw [hv2.length]; exact hl, ρ, f, ds, ρ2, R, hv2, e, fun σ' f' R' x' => hp σ' H f' R' x'⟩
    · cases hm
end
end DL
namespace DL
open PySem PySem.Spec PyProof.Rows L2

/-! ### the end: every def's table is empty at the start -/
def AllTab (q : Program) (K : PySem.W.Frag) (mg : Str → Option Value) (h : Heap) : Prop := ∀ (nm : Str) (fa : Addr), ((recsOf q).any fun e => e.name == nm) = true → mg nm = some (.ref fa) → LamX.OwnTab K fa h
theorem walk_all {l : PySem.W.OpenLaw} {n k : Nat} {q : Program} {loose : List Str} {XP : (Str → Option Value) → Heap → Prop} {YP : World → Heap → Prop} {d : DefRec} {K : Params → PySem.W.Frag} {CX : World → CXT} {x : Str}
    (hn : l.most = some n) (hn2 : n ≤ sizeLine) (hdf : d.params.defaults = []) (hr : Room k callerA) (hY : ∀ (w : World) (h : Heap), YP w h → (K w.params).In h)
    (F : ∀ (w : World) (mg : Str → Option Value) (fa : Addr) (h : Heap), YP w h → (K w.params).In h → h.Ns mainGlobals mg → mg d.name = some (.ref fa) → AllTab q (K w.params) mg h → LamX.LawAtS l w (K w.params) (CX w) k n x mg fa h)
    (hCX : ∀ (w : World) (H : Hp) (s : Shared) (e : Value) (s' : Shared), CX w [] H s (fun _ _ _ => False) e s' → False) :
    PySem.W.WalkO q loose XP YP l.row.toRowW d [] (fun f vs => PySem.call f vs) := by
  refine Att.attach_callB hn hdf fun w s₀ s₁ mg mb fa o pm cd doc a vs ns G Y ho hd hcd hmg hobj hints hlen hbits hg => ?_
  have KX := hY w _ Y
  have all : AllTab q (K w.params) mg s₁.heap := fun nm fb hrec hfb c P o1 fd1 e dd vs1 sl k1 k2 k3 k4 k5 => by
    obtain ⟨dL, hm, hn1⟩ := List.any_eq_true.mp hrec
    have hn2 : dL.name = nm := beq_iff_eq.mp hn1
    obtain ⟨a', o', fd', c', P', h1, h2, h3, h4, h5, h6⟩ := G.T.tab dL hm
    rw [hn2, hfb] at h1
    cases h1
    rw [KX _ _ k1] at h2
    cases h2
    rw [k2] at h3
    cases h3
    rw [k3] at h4
    cases h4
    obtain ⟨⟨oc, vc, e1, _, e3, e4⟩, hP⟩ := h6
    rw [KX _ _ k4] at e1
    cases e1
    cases e3
    rw [k5] at e4
    cases e4
    exact hP
  obtain ⟨fd, cs, sp, hT, nT, C, hb, hsp, hF⟩ := F w mg fa _ Y KX G.T.g hmg all
  exact LamX.law_callTs KX G.T.g G.T.b G.T.builtins G.T.nolimit hg hT nT C G.T.bmain hobj hints (Nat.le_trans hlen hn2) hr hF hb (fun H hH hS => hsp H a ns hlen hbits hH hS) fun H e s' => hCX w H s₁ e s'

/-- a def's code object, as it is written -/
structure CodeW (vs : Array Value) (c P : Addr) : Prop where
  e11 : vs[11]? = some (.ref P)
  g11 : vs.getD 11 .none = .ref P
  g18 : ∃ file tf, vs.getD 18 .none = .str file tf
  g7 : ∃ flags tg, vs.getD 7 .none = .int flags tg
  g9 : ∃ inF, vs.getD 9 .none = .bool inF
  g10 : ∃ text tt, vs.getD 10 .none = .int text tt
  ne : c ≠ P
theorem code_of {K : PySem.W.Frag} {h : Heap} {c P : Addr} {dd : Option Addr} {vs : Array Value} {sl : Array (Option Value)} (X : K.In h) (r : K.lookup c = some ⟨.type "code", dd, .fields vs, sl⟩) (t : CodeW vs c P) : PySem.W.CodeHd h c P := by
  obtain ⟨a, b, ⟨_, _, c18⟩, ⟨_, _, c7⟩, ⟨_, c9⟩, ⟨_, _, c10⟩, ne⟩ := t
  exact ⟨_, vs, _, _, _, _, _, _, _, X _ _ r, rfl, rfl, a, b, c18, c7, c9, c10, ne⟩

/-! ### the law's promise -/
def spL (K : PySem.W.Frag) (T : Addr → Prop) (n : Nat) : Sp := fun vs H Q _ => ∃ (a : Addr) (ns : List Int), vs = [.ref a] ∧ SqL K H a (ns.map V.int) ∧ ns.length ≤ n ∧ (∀ z ∈ ns, Builtin.Int.intBits z ≤ 1048576) ∧ (∀ P, T P → H P = some (.tbl #[])) ∧ ∀ H', Q (.bl true) H'
theorem spL_to {K : PySem.W.Frag} {mg : Str → Option Value} {T : Addr → Prop} {n : Nat} {F : Fn} (hF : ∀ ns : List Int, ns.length ≤ n → (∀ z ∈ ns, Builtin.Int.intBits z ≤ 1048576) → F [.dat (.list (ns.map PyData.int))] = some (.ret (.bool true) [])) :
    ∀ vs H Q E, spL K T n vs H Q E → spF K mg T F vs H Q E0 := by
  rintro vs H Q E ⟨a, ns, rfl, hS, hl, hb, ht, q⟩
  refine ⟨T, [.dat (.list (ns.map PyData.int))], [], _, .dat ?_ .nil, ⟨fun P hP => ⟨_, ht P hP⟩, fun P hP => ⟨hP, #[], ht P hP, by simp [TriplesOk]⟩⟩, hF ns hl hb, fun v H' _ _ hh => ?_⟩
  · refine .lst ?_ (HasL.ints ns)
    rcases hS with hS | hS
    · refine .inl ⟨fun hT => ?_, hS⟩
      have e := ht a hT
      rcases hS with hS | ⟨o, hS⟩ <;> rw [e] at hS <;> cases hS
    · exact .inr hS
  · cases hh.bl_inv
    exact q H'
end DL
namespace DL
open PySem PySem.Spec PyProof.Rows L2

/-! ### runs, plainly -/
theorem seq_nx {m n : SS} {ρ ρ1 : Rho} (h : m ρ = some (.nx ρ1)) : S.seq m n ρ = n ρ1 := by unfold S.seq; rw [h]
theorem of_val {α : Type} {m : M α} {k : α → SS} {ρ ρ1 : Rho} {a : α} (h : m ρ = some (.val a ρ1)) : S.of m k ρ = k a ρ1 := by unfold S.of; rw [h]
theorem bind_val {α β : Type} {m : M α} {k : α → M β} {ρ ρ1 : Rho} {a : α} (h : m ρ = some (.val a ρ1)) : M.bind m k ρ = k a ρ1 := by unfold M.bind; rw [h]
/-- a loop by its state: I of what is left -/
theorem loop_run {α : Type} {g : TgM} {body : SS} (st : α → Rho) (step : α → D → α) (I : List D → α → Prop) (hs : ∀ d r a, I (d :: r) a → ∃ ρ1, g d (st a) = some ρ1 ∧ body ρ1 = some (.nx (st (step a d))) ∧ I r (step a d)) :
    ∀ (ds : List D) (a : α), I ds a → loopM g body ds (st a) = some (.nx (st (ds.foldl step a)))
  | [], a, _ => rfl
  | d :: r, a, h => by
    obtain ⟨ρ1, h1, h2, h3⟩ := hs d r a h
    show (match g d (st a) with | none => none | some ρ1 => S.turn body (loopM g body r) ρ1) = _
    rw [h1]
    show S.turn body (loopM g body r) ρ1 = _
    unfold S.turn
    rw [h2]
    exact loop_run st step I hs r _ h3
theorem for_run {α : Type} {ms : M (List D)} {g : TgM} {body : SS} {ρ : Rho} {ds : List D} {a : α} (st : α → Rho) (step : α → D → α) (I : List D → α → Prop) (hm : ms ρ = some (.val ds (st a)))
    (hs : ∀ d r a, I (d :: r) a → ∃ ρ1, g d (st a) = some ρ1 ∧ body ρ1 = some (.nx (st (step a d))) ∧ I r (step a d)) (h0 : I ds a) : S.forS ms g body ρ = some (.nx (st (ds.foldl step a))) := by
  unfold S.forS
  rw [of_val hm]
  exact loop_run st step I hs ds a h0
/-- a comprehension that leaves the state as it is -/
structure Turns (g : TgM) (mt : M Bool) (me : M D) (vs : List Nat) (ρ : Rho) (b : D → Bool) (y : D → D) (d : D) : Prop where
  ex : ∃ ρ1 ρ2, g d ρ = some ρ1 ∧ mt ρ1 = some (.val (b d) ρ2) ∧ (b d = false → noInn ρ2 vs = true ∧ wipeR ρ2 vs = ρ) ∧ (b d = true → ∃ ρ3, me ρ2 = some (.val (y d) ρ3) ∧ noInn ρ3 vs = true ∧ wipeR ρ3 vs = ρ)
theorem lcLoop_run {g : TgM} {mt : M Bool} {me : M D} {vs : List Nat} {ρ : Rho} {b : D → Bool} {y : D → D} : ∀ (ds acc : List D), (∀ d ∈ ds, Turns g mt me vs ρ b y d) → acc.length + ds.length ≤ 16777216 → lcLoop g mt me vs ds acc ρ = some (acc ++ (ds.filter b).map y, ρ)
  | [], acc, _, _ => by simp [lcLoop]
  | d :: r, acc, h, hl => by
    obtain ⟨ρ1, ρ2, h1, h2, h3, h4⟩ := (h d (by simp)).ex
    simp only [List.length_cons] at hl
    simp only [lcLoop, h1, h2]
    cases hb : b d with
    | false =>
      obtain ⟨h5, h6⟩ := h3 hb
      simp only [h5, if_true, h6]
      rw [lcLoop_run r acc (fun d hd => h d (by simp [hd])) (by omega)]
      simp [hb]
    | true =>
      obtain ⟨ρ3, h5, h6, h7⟩ := h4 hb
      have hlt : acc.length < 16777216 := by omega
      simp only [h5, h6, hlt, and_self, if_true, h7]
      rw [lcLoop_run r (acc ++ [y d]) (fun d hd => h d (by simp [hd])) (by simp; omega)]
      simp [hb]
theorem lc_run {ms : M (List D)} {g : TgM} {mt : M Bool} {me : M D} {vs : List Nat} {ρ ρ1 : Rho} {b : D → Bool} {y : D → D} {ds : List D} (hm : ms ρ = some (.val ds ρ1)) (hn : noInn ρ1 vs = true) (hw : wipeR ρ1 vs = ρ1) (h : ∀ d ∈ ds, Turns g mt me vs ρ1 b y d) (hl : ds.length ≤ 16777216) :
    M.lc ms g mt me vs ρ = some (.val (.lst ((ds.filter b).map y)) ρ1) := by
  unfold M.lc
  rw [bind_val hm]
  simp only [hn, if_true, hw]
  rw [lcLoop_run ds [] h (by simpa using hl)]
  simp [hn, hw]
theorem geLoop_run {stop : Bool} {g : TgM} {mt : M Bool} {me : M D} {vs : List Nat} {ρ : Rho} {b t : D → Bool} : ∀ (ds : List D), (∀ d ∈ ds, Turns g mt me vs ρ b (fun d => .bool (t d)) d) → geLoop stop g mt me vs ds ρ = some (if (ds.filter b).any (fun d => t d == stop) = true then stop else !stop, ρ)
  | [], _ => by simp [geLoop]
  | d :: r, h => by
    obtain ⟨ρ1, ρ2, h1, h2, h3, h4⟩ := (h d (by simp)).ex
    simp only [geLoop, h1, h2]
    cases hb : b d with
    | false =>
      obtain ⟨h5, h6⟩ := h3 hb
      simp only [h5, if_true, h6]
      rw [geLoop_run r fun d hd => h d (by simp [hd])]
      simp [hb]
    | true =>
      obtain ⟨ρ3, h5, h6, h7⟩ := h4 hb
      simp only [h5, h6, if_true, h7]
      by_cases ht : t d = stop
      · simp [hb, ht]
      · rw [if_neg ht, geLoop_run r fun d hd => h d (by simp [hd])]
        simp [hb, ht]
theorem ge_run {stop : Bool} {ms : M (List D)} {g : TgM} {mt : M Bool} {me : M D} {vs : List Nat} {ρ ρ1 : Rho} {b t : D → Bool} {ds : List D} (hm : ms ρ = some (.val ds ρ1)) (hn : noInn ρ1 vs = true) (hw : wipeR ρ1 vs = ρ1) (h : ∀ d ∈ ds, Turns g mt me vs ρ1 b (fun d => .bool (t d)) d) :
    M.ge stop ms g mt me vs ρ = some (.val (.bool (if (ds.filter b).any (fun d => t d == stop) = true then stop else !stop)) ρ1) := by
  unfold M.ge
  rw [bind_val hm]
  simp only [hn, if_true, hw]
  rw [geLoop_run ds h]
  simp [hn, hw]
theorem siLoop_run {g : TgM} {mt : M Bool} {me : M D} {vs : List Nat} {ρ : Rho} {b : D → Bool} {y : D → Int} : ∀ (ds : List D) (acc : List Int), (∀ d ∈ ds, Turns g mt me vs ρ b (fun d => .int (y d)) d) → (∀ k ≤ ds.length, (((ds.take k).filter b).foldl (fun a d => insI (y d) a) acc).length < 1000) →
    siLoop g mt me vs ds acc ρ = some ((ds.filter b).foldl (fun a d => insI (y d) a) acc, ρ)
  | [], acc, _, _ => by simp [siLoop]
  | d :: r, acc, h, hl => by
    obtain ⟨ρ1, ρ2, h1, h2, h3, h4⟩ := (h d (by simp)).ex
    have h0 := hl 0 (Nat.zero_le _)
    simp only [List.take_zero, List.filter_nil, List.foldl_nil] at h0
    simp only [siLoop, h1, h2]
    cases hb : b d with
    | false =>
      obtain ⟨h5, h6⟩ := h3 hb
      simp only [h5, if_true, h6]
      rw [siLoop_run r acc (fun d hd => h d (by simp [hd])) fun k hk => by simpa [hb] using hl (k + 1) (by simpa using hk)]
      simp [hb]
    | true =>
      obtain ⟨ρ3, h5, h6, h7⟩ := h4 hb
      simp only [h5, h6, h0, and_self, if_true, h7]
      rw [siLoop_run r (insI (y d) acc) (fun d hd => h d (by simp [hd])) fun k hk => by simpa [hb] using hl (k + 1) (by simpa using hk)]
      simp [hb]

/-! ### ints in a row -/
def rngI (lo hi : Int) : List Int := (List.range (hi - lo).toNat).map fun i => lo + (i : Nat)
theorem rangeL_eq (lo hi : Int) : rangeL lo hi = (rngI lo hi).map PyData.int := by simp [rangeL, rngI, List.map_map, Function.comp_def]
theorem mem_rngI {lo hi x : Int} : x ∈ rngI lo hi ↔ lo ≤ x ∧ x < hi := by
  simp only [rngI, List.mem_map, List.mem_range]
  constructor
  · rintro ⟨i, hi, rfl⟩; omega
  · rintro ⟨h1, h2⟩; exact ⟨(x - lo).toNat, by omega, by omega⟩
theorem rngI_sorted (lo hi : Int) : (rngI lo hi).Pairwise (· < ·) := by
  unfold rngI
  rw [List.pairwise_map]
  exact List.pairwise_lt_range.imp fun h => by omega
theorem rngI_len (lo hi : Int) : (rngI lo hi).length = (hi - lo).toNat := by simp [rngI]

/-! ### data of rows -/
def tupI (xs : List Int) : D := .tuple (xs.map PyData.int)
theorem eqv_ints : ∀ xs ys : List Int, PyData.eqvAll (xs.map PyData.int) (ys.map PyData.int) = decide (xs = ys)
  | [], [] => by simp [PyData.eqvAll]
  | [], _ :: _ => by simp [PyData.eqvAll]
  | _ :: _, [] => by simp [PyData.eqvAll]
  | x :: xs, y :: ys => by
    rw [List.map_cons, List.map_cons, PyData.eqvAll, eqv_ints xs ys]
    by_cases h : x = y <;> simp [PyData.eqv, h]
theorem eqv_tupI (xs ys : List Int) : PyData.eqv (tupI xs) (tupI ys) = decide (xs = ys) := by
  rw [tupI, tupI, PyData.eqv, eqv_ints]
theorem okD_tupI (n : Nat) (xs : List Int) : okD (n + 1) (tupI xs) = true := by
  simp only [tupI, okD, List.all_map, List.all_eq_true]
  intro x _
  cases n <;> rfl
theorem okD_rows (n : Nat) (R : List (List Int)) : okD (n + 2) (.list (R.map tupI)) = true ∧ okD (n + 2) (.tuple (R.map tupI)) = true := by
  simp only [okD, List.all_map, List.all_eq_true]
  exact ⟨fun x _ => okD_tupI n x, fun x _ => okD_tupI n x⟩
theorem alike_ints : ∀ xs ys : List Int, PySem.W.alikeAll (xs.map PyData.int) (ys.map PyData.int) = true
  | [], _ => by simp [PySem.W.alikeAll]
  | _ :: _, [] => by simp [PySem.W.alikeAll]
  | x :: xs, y :: ys => by simp [PySem.W.alikeAll, PySem.W.alike, alike_ints xs ys]
theorem alike_tupI (xs ys : List Int) : PySem.W.alike (tupI xs) (tupI ys) = true := by
  rw [tupI, tupI, PySem.W.alike, alike_ints]
theorem alikeB_rows (R : List (List Int)) : alikeB (R.map tupI) = true := by
  simp only [alikeB, List.all_map, List.all_eq_true, Function.comp_def, Bool.and_eq_true]
  exact fun x _ => ⟨⟨okD_tupI 59 x, by simp [tupI]⟩, fun y _ => alike_tupI x y⟩
theorem lt_tupI (xs ys : List Int) : PySem.W.dataLt (tupI xs) (tupI ys) = decide (xs < ys) := by
  rw [tupI, tupI, PySem.W.dataLt_tuple]
  exact PySem.W.dataLt_ints xs ys
def leR (p q : List Int) : Bool := decide (p ≤ q)
theorem le_tupI : (fun p q : List Int => PySem.W.dataLe false (fun d => d) (tupI p) (tupI q)) = leR := by
  funext p q
  rw [PySem.W.dataLe_eq]
  show (!PySem.W.dataLt (tupI q) (tupI p)) = _
  rw [lt_tupI, leR]
  by_cases h : q < p
  · simp [h, List.not_le.mpr h]
  · simp [h, List.not_lt.mp h]
theorem sortF_rows (R : List (List Int)) (hne : ∀ r ∈ R, r ≠ []) (hl : R.length ≤ 16777216) : sortF (.list (R.map tupI)) = some (.lst ((R.mergeSort leR).map tupI)) := by
  have h1 : sortB (R.map tupI) = true := by
    simp only [sortB, alikeB_rows, Bool.true_and, Bool.or_eq_true]
    refine .inl ?_
    simp only [List.all_map, List.all_eq_true, Function.comp_def]
    intro r hr
    cases r with
    | nil => exact absurd rfl (hne _ hr)
    | cons x xs => rfl
  simp only [sortF, h1, List.length_map, hl, and_self, if_true, Option.some.injEq, Cell.lst.injEq]
  exact (List.map_mergeSort fun a _ b _ => (congrFun (congrFun le_tupI a) b).symm).symm
theorem leR_trans : ∀ a b c : List Int, leR a b = true → leR b c = true → leR a c = true := fun a b c h1 h2 => by
  simp only [leR, decide_eq_true_eq] at *
  exact List.le_trans h1 h2
theorem leR_total : ∀ a b : List Int, (leR a b || leR b a) = true := fun a b => by
  simp only [leR, Bool.or_eq_true, decide_eq_true_eq]
  exact List.le_total a b
theorem leR_anti {a b : List Int} (h1 : leR a b = true) (h2 : leR b a = true) : a = b := by
  simp only [leR, decide_eq_true_eq] at *
  exact List.le_antisymm h1 h2
/-- rows with the same members, none twice, are sorted alike -/
theorem sort_eq {R Q : List (List Int)} (h1 : R.Nodup) (h2 : Q.Nodup) (h : ∀ r, r ∈ R ↔ r ∈ Q) : R.mergeSort leR = Q.mergeSort leR := by
  have hp : R.Perm Q := (List.perm_ext_iff_of_nodup h1 h2).mpr h
  exact List.Perm.eq_of_pairwise (le := fun a b => leR a b = true) (fun a b _ _ x y => leR_anti x y) (List.pairwise_mergeSort leR_trans leR_total R) (List.pairwise_mergeSort leR_trans leR_total Q) ((List.mergeSort_perm R leR).trans (hp.trans (List.mergeSort_perm Q leR).symm))
theorem sort_filter {R : List (List Int)} (b : List Int → Bool) : (R.mergeSort leR).filter b = (R.filter b).mergeSort leR :=
  List.Perm.eq_of_pairwise (le := fun a b => leR a b = true) (fun a b _ _ x y => leR_anti x y) ((List.pairwise_mergeSort leR_trans leR_total R).filter b) (List.pairwise_mergeSort leR_trans leR_total _) (((List.mergeSort_perm R leR).filter b).trans (List.mergeSort_perm _ leR).symm)
theorem eqD_self {d : D} (h : okD 60 d = true) : eqD d d = some (.bool true) := by
  unfold eqD
  rw [if_pos ⟨h, h⟩, SeqAt.eqv_refl_plain d (okD_spec h).1]
theorem neD_self {d : D} (h : okD 60 d = true) : neD d d = some (.bool false) := by
  unfold neD
  rw [if_pos ⟨h, h⟩, SeqAt.eqv_refl_plain d (okD_spec h).1]
  rfl

/-! ### ints compared -/
@[simp] theorem leD_int (i j : Int) : leD (.int i) (.int j) = some (.bool (decide (i ≤ j))) := by
  have h : cmpOk (.int i) (.int j) = true := rfl
  simp only [leD, h, if_true, PySem.W.dataLt_int, Option.some.injEq, PyData.bool.injEq]
  by_cases h : j < i
  · simp [h]
  · simp [h]; omega
@[simp] theorem geD_int (i j : Int) : geD (.int i) (.int j) = some (.bool (decide (j ≤ i))) := by
  have h : cmpOk (.int i) (.int j) = true := rfl
  simp only [geD, h, if_true, PySem.W.dataLt_int, Option.some.injEq, PyData.bool.injEq]
  by_cases h : i < j
  · simp [h]
  · simp [h]; omega
@[simp] theorem ltD_int (i j : Int) : ltD (.int i) (.int j) = some (.bool (decide (i < j))) := by
  have h : cmpOk (.int i) (.int j) = true := rfl
  simp only [ltD, h, if_true, PySem.W.dataLt_int]
@[simp] theorem gtD_int (i j : Int) : gtD (.int i) (.int j) = some (.bool (decide (j < i))) := by
  have h : cmpOk (.int i) (.int j) = true := rfl
  simp only [gtD, h, if_true, PySem.W.dataLt_int]
@[simp] theorem eqD_int (i j : Int) : eqD (.int i) (.int j) = some (.bool (decide (i = j))) := by
  have h : ∀ i : Int, okD 60 (.int i) = true := fun _ => rfl
  simp only [eqD, h, and_self, if_true, PyData.eqv]
  rfl
@[simp] theorem neD_int (i j : Int) : neD (.int i) (.int j) = some (.bool (!decide (i = j))) := by
  have h : ∀ i : Int, okD 60 (.int i) = true := fun _ => rfl
  simp only [neD, h, and_self, if_true, PyData.eqv]
  rfl
@[simp] theorem addD_int (i j : Int) : addD (.int i) (.int j) = some (.int (i + j)) := rfl
@[simp] theorem subD_int (i j : Int) : subD (.int i) (.int j) = some (.int (i - j)) := rfl
@[simp] theorem modD_int {i j : Int} (h : 0 < j) : modD (.int i) (.int j) = some (.int (i % j)) := by simp [modD, intD, okMod, h]
theorem fdivD_int {i j : Int} (h : 0 < j) (h2 : j.natAbs.log2 < 9000) : fdivD (.int i) (.int j) = some (.int (i / j)) := by simp [fdivD, intD, okDiv, h, h2]
theorem mulID_int {i j : Int} (h : i.natAbs.log2 + j.natAbs.log2 < 1000000) : mulID (.int i) (.int j) = some (.int (i * j)) := by simp [mulID, intD, okMul, h]
theorem isT_ok {p : D → Bool} {d : D} (h : okD 60 d = true) : isT p d = some (.bool (p d)) := by simp [isT, h]
theorem log2_le {n k : Nat} (h : n < 2 ^ k) (hk : 0 < k) : n.log2 < k := by
  by_cases h0 : n = 0
  · subst h0; simpa using hk
  · exact (Nat.log2_lt h0).mpr h

/-! ### evaluation, by simp -/
section
variable {α β : Type} (m : M D) (ma mb mc : M D) (mt mu : M Bool) (k : α → M β) (ρ : Rho) (n n' : SS)
@[simp] theorem v_ret (a : α) : M.ret a ρ = some (.val a ρ) := rfl
@[simp] theorem v_bind (m : M α) : M.bind m k ρ = match m ρ with
  | none => none
  | some (.exc c ρ') => some (.exc c ρ')
  | some (.val a ρ') => k a ρ' := rfl
@[simp] theorem v_lift (a : α) : M.lift (some a) ρ = some (.val a ρ) := rfl
@[simp] theorem v_lift0 : M.lift (none : Option α) ρ = none := rfl
@[simp] theorem v_bin (g) : M.bin g ma mb ρ = M.bind ma (fun x => M.bind mb fun y => .lift (g x y)) ρ := rfl
@[simp] theorem v_binF (g) : M.binF g ma mb ρ = M.bind ma (fun x => M.bind mb fun y => .lift (g x y)) ρ := rfl
@[simp] theorem v_un (g) : M.un g ma ρ = M.bind ma (fun x => .lift (g x)) ρ := rfl
@[simp] theorem v_unF (g) : M.unF g ma ρ = M.bind ma (fun x => .lift (g x)) ρ := rfl
@[simp] theorem v_cons (mr : M (List D)) : M.cons ma mr ρ = M.bind ma (fun x => M.bind mr fun xs => .ret (x :: xs)) ρ := rfl
@[simp] theorem v_tup (ms : M (List D)) : M.tup ms ρ = M.bind ms (fun ds => .lift (tupD ds)) ρ := rfl
@[simp] theorem v_lst (ms : M (List D)) : M.lst ms ρ = M.bind ms (fun ds => .lift (lstF ds)) ρ := rfl
@[simp] theorem v_cell (mc : M Cell) : M.cell mc ρ = M.bind mc (fun c => .ret (cellD c)) ρ := rfl
@[simp] theorem v_tru : M.tru m ρ = M.bind m (fun d => .lift (truD d)) ρ := rfl
@[simp] theorem v_asB : M.asB m ρ = M.bind m (fun d => .lift (boolD d)) ρ := rfl
@[simp] theorem v_notB : M.notB mt ρ = M.bind mt (fun b => .ret (!b)) ρ := rfl
@[simp] theorem v_and : M.and mt mu ρ = M.bind mt (fun t => if t = true then mu else .ret false) ρ := rfl
@[simp] theorem v_or : M.or mt mu ρ = M.bind mt (fun t => if t = true then .ret true else mu) ρ := rfl
@[simp] theorem v_andV : M.andV ma mb ρ = M.bind ma (fun x => match x with
  | .bool true => mb
  | .bool false => .ret (.bool false)
  | _ => fun _ => none) ρ := rfl
@[simp] theorem v_orV : M.orV ma mb ρ = M.bind ma (fun x => match x with
  | .bool true => .ret (.bool true)
  | .bool false => mb
  | _ => fun _ => none) ρ := rfl
@[simp] theorem v_notV : M.notV ma ρ = M.bind ma (fun x => match x with
  | .bool b => .ret (.bool (!b))
  | _ => fun _ => none) ρ := rfl
@[simp] theorem v_ife (ma mb : M α) : M.ife mt ma mb ρ = M.bind mt (fun t => if t = true then ma else mb) ρ := rfl
@[simp] theorem v_chain (g g') : M.chain g g' ma mb mc ρ = M.bind ma (fun x => M.bind mb fun y => M.bind (M.lift (g x y)) fun z => match z with
  | .bool true => M.bind mc fun w => .lift (g' y w)
  | .bool false => .ret (.bool false)
  | _ => fun _ => none) ρ := rfl
@[simp] theorem v_part : M.part ma ρ = M.bind ma (fun d => match d with
  | .int i => .ret (some i)
  | _ => fun _ => none) ρ := rfl
@[simp] theorem v_sl (ml mh) : M.sl ma ml mh ρ = M.bind ma (fun x => M.bind ml fun l => M.bind mh fun h => .lift (slD x l h)) ρ := rfl
@[simp] theorem v_slF (ml mh) : M.slF ma ml mh ρ = M.bind ma (fun x => M.bind ml fun l => M.bind mh fun h => .lift (DL.slF x l h)) ρ := rfl
@[simp] theorem v_cdat (mr : M (List CArg)) : M.cdat ma mr ρ = M.bind ma (fun x => M.bind mr fun xs => .ret (.dat x :: xs)) ρ := rfl
@[simp] theorem v_cslot (i : Nat) (mr : M (List CArg)) : M.cslot i mr ρ = match ρ[i]? with
  | some (some (.mut _ _)) => M.bind mr (fun xs => .ret (.slot i :: xs)) ρ
  | _ => none := rfl
@[simp] theorem v_items : M.items m ρ = M.bind m (fun d => .lift (itemsD d)) ρ := rfl
@[simp] theorem v_rng1 (ms : M (List D)) : M.rng1 ms ρ = M.bind ms (fun ds => .lift (rng1D ds)) ρ := rfl
@[simp] theorem v_rng2 (ms : M (List D)) : M.rng2 ms ρ = M.bind ms (fun ds => .lift (rng2D ds)) ρ := rfl
@[simp] theorem v_keysF (mc : M Cell) : M.keysF mc ρ = M.bind mc (fun c => .lift (keysC c)) ρ := rfl
@[simp] theorem v_var (i : Nat) : varM i ρ = match ρ[i]? with
  | some (some (.dat d)) => some (.val d ρ)
  | some (some (.mut true c)) => some (.val (cellD c) (ρ.set i (some (.dat (cellD c)))))
  | _ => none := rfl
@[simp] theorem v_pk (i : Nat) : pkM i ρ = match ρ[i]? with
  | some (some (.dat d)) => some (.val d ρ)
  | some (some (.mut _ c)) => some (.val (cellD c) ρ)
  | _ => none := rfl
@[simp] theorem v_yes : M.yes ρ = some (.val true ρ) := rfl
@[simp] theorem v_app (i : Nat) : M.app i m ρ = match mutL ρ i with
  | none => none
  | some _ => M.bind m (fun d ρ' => match mutL ρ' i with
    | some (b, ds) => if ds.length < 16777216 then some (.val .none (ρ'.set i (some (.mut b (.lst (ds ++ [d])))))) else none
    | none => none) ρ := rfl
@[simp] theorem v_pop (i : Nat) : M.pop i ρ = match mutL ρ i with
  | some (b, ds) => match ds.getLast? with
    | some d => some (.val d (ρ.set i (some (.mut b (.lst ds.dropLast)))))
    | none => none
  | none => none := rfl
@[simp] theorem v_ixV (i : Nat) : M.ixV i m ρ = match mutL ρ i with
  | none => none
  | some _ => M.bind m (fun k ρ' => match mutL ρ' i with
    | some (_, ds) => M.lift (ixD (.list ds) k) ρ'
    | none => none) ρ := rfl
@[simp] theorem v_callM (F : Fn) (ms : M (List CArg)) : callM F ms ρ = M.bind ms (fun cs => fun ρ => if (slotsOf cs).Nodup then match avs ρ cs with
  | none => none
  | some as => match F as with
    | none => none
    | some (.ret d outs) => some (.val d (putOuts ρ (slotsOf cs) outs))
    | some (.retF c outs) => some (.val (cellD c) (putOuts ρ (slotsOf cs) outs))
    | some (.exc c outs) => some (.exc c (putOuts ρ (slotsOf cs) outs)) else none) ρ := rfl
@[simp] theorem v_callF (F : Fn) (ms : M (List CArg)) : callF F ms ρ = M.bind ms (fun cs => fun ρ => if (slotsOf cs).Nodup then match avs ρ cs with
  | none => none
  | some as => match F as with
    | some (.retF c outs) => some (.val c (putOuts ρ (slotsOf cs) outs))
    | some (.exc c outs) => some (.exc c (putOuts ρ (slotsOf cs) outs))
    | _ => none else none) ρ := rfl
@[simp] theorem w_seq : S.seq n n' ρ = match n ρ with
  | some (.nx ρ') => n' ρ'
  | r => r := rfl
@[simp] theorem w_of (m : M α) (k : α → SS) : S.of m k ρ = match m ρ with
  | none => none
  | some (.exc c ρ') => some (.exc c ρ')
  | some (.val a ρ') => k a ρ' := rfl
@[simp] theorem w_nx : S.nx ρ = some (.nx ρ) := rfl
@[simp] theorem w_ret : S.ret m ρ = S.of m (fun d ρ => some (.ret d ρ)) ρ := rfl
@[simp] theorem w_retF (m : M Cell) : S.retF m ρ = S.of m (fun d ρ => some (.retF d ρ)) ρ := rfl
@[simp] theorem w_retN : S.retN ρ = some (.ret .none ρ) := rfl
@[simp] theorem w_drop : S.drop m ρ = S.of m (fun _ ρ => some (.nx ρ)) ρ := rfl
@[simp] theorem w_ife : S.ife mt n n' ρ = S.of mt (fun t => if t = true then n else n') ρ := rfl
@[simp] theorem w_asg (g : TgM) : S.asg m g ρ = S.of m (fun d ρ => match g d ρ with
  | some ρ' => some (.nx ρ')
  | none => none) ρ := rfl
@[simp] theorem w_setF (m : M Cell) (i : Nat) : S.setF m i ρ = S.of m (fun c ρ => if isInn ρ i = true then none else some (.nx (ρ.set i (some (.mut true c))))) ρ := rfl
@[simp] theorem w_setIx (i : Nat) (mk me : M D) : S.setIx i mk me ρ = S.of me (fun d ρ => match mutL ρ i with
  | none => none
  | some _ => S.of mk (fun k ρ' => match k, mutL ρ' i with
    | .int j, some (b, ds) => match ixN ds.length j with
      | some n => some (.nx (ρ'.set i (some (.mut b (.lst (ds.set n d))))))
      | none => none
    | _, _ => none) ρ) ρ := rfl
@[simp] theorem w_par (i j : Nat) : S.par i j ma mb ρ = S.of ma (fun x => S.of mb fun y ρ => if isInn ρ i = true ∨ isInn ρ j = true ∨ i = j then none else some (.nx ((ρ.set i (some (.dat x))).set j (some (.dat y))))) ρ := rfl
@[simp] theorem w_parDF (i j : Nat) (mc : M Cell) : S.parDF i j ma mc ρ = S.of ma (fun x => S.of mc fun y ρ => if isInn ρ i = true ∨ isInn ρ j = true ∨ i = j then none else some (.nx ((ρ.set i (some (.dat x))).set j (some (.mut true y))))) ρ := rfl
@[simp] theorem w_unpL (i l : Nat) (g : List D → Rho → Option Rho) : S.unpL i l g ρ = match mutL ρ i with
  | some (_, ds) => if ds.length = l then match g ds ρ with
    | some ρ' => some (.nx ρ')
    | none => none else none
  | none => none := rfl
@[simp] theorem w_frz (i : Nat) : S.frz i ρ = some (.nx (frzR ρ i)) := rfl
@[simp] theorem w_fgt (l : List Nat) : S.fgt l ρ = some (.nx (forget ρ l)) := rfl
@[simp] theorem t_n (i : Nat) (d : D) : tgN i d ρ = if isInn ρ i = true then none else some (ρ.set i (some (.dat d))) := rfl
@[simp] theorem t_nil : tgNil [] ρ = some ρ := rfl
@[simp] theorem t_cons (g : TgM) (r) (d : D) (ds : List D) : tgCons g r (d :: ds) ρ = (g d ρ).bind (r ds) := rfl
@[simp] theorem t_t (k : Nat) (r) (ds : List D) : tgT k r (.tuple ds) ρ = if ds.length = k then r ds ρ else none := rfl
end
theorem okD_mono : ∀ {n : Nat} {d : D}, okD n d = true → okD (n + 1) d = true
  | n, .none, _ => rfl
  | n, .bool _, _ => rfl
  | n, .int _, _ => rfl
  | n, .str _, _ => rfl
  | n + 1, .list xs, h => by
    simp only [okD, List.all_eq_true] at h ⊢
    exact fun x hx => okD_mono (h x hx)
  | n + 1, .tuple xs, h => by
    simp only [okD, List.all_eq_true] at h ⊢
    exact fun x hx => okD_mono (h x hx)
  | 0, .list _, h => by simp [okD] at h
  | 0, .tuple _, h => by simp [okD] at h
  | n, .dict _, h => by cases n <;> simp [okD] at h
theorem okD_tup {xs : List D} (h : okD 60 (.tuple xs) = true) : ∀ x ∈ xs, okD 60 x = true := by
  simp only [okD, List.all_eq_true] at h
  exact fun x hx => okD_mono (h x hx)
theorem okD_lst {xs : List D} (h : okD 60 (.list xs) = true) : ∀ x ∈ xs, okD 60 x = true := by
  simp only [okD, List.all_eq_true] at h
  exact fun x hx => okD_mono (h x hx)
@[simp] theorem ok_int (i : Int) : okD 60 (.int i) = true := rfl
@[simp] theorem ok_none : okD 60 .none = true := rfl
@[simp] theorem ok_bool (b : Bool) : okD 60 (.bool b) = true := rfl
@[simp] theorem ok_str (b : Str) : okD 60 (.str b) = true := rfl

/-! ### turns of a comprehension -/
theorem turn1 {mt : M Bool} {me : M D} {vs : List Nat} {ρ ρ1 : Rho} {b : D → Bool} {y : D → D} {d : D} {i : Nat} (hi : isInn ρ i = false) (hs : ρ.set i (some (.dat d)) = ρ1) (ht : mt ρ1 = some (.val (b d) ρ1)) (he : b d = true → me ρ1 = some (.val (y d) ρ1)) (hn : noInn ρ1 vs = true) (hw : wipeR ρ1 vs = ρ) : Turns (tgN i) mt me vs ρ b y d :=
  ⟨ρ1, ρ1, by subst hs; simp [hi], ht, fun _ => ⟨hn, hw⟩, fun h => ⟨ρ1, he h, hn, hw⟩⟩
theorem turnG {g : TgM} {mt : M Bool} {me : M D} {vs : List Nat} {ρ ρ1 : Rho} {b : D → Bool} {y : D → D} {d : D} (hs : g d ρ = some ρ1) (ht : mt ρ1 = some (.val (b d) ρ1)) (he : b d = true → me ρ1 = some (.val (y d) ρ1)) (hn : noInn ρ1 vs = true) (hw : wipeR ρ1 vs = ρ) : Turns g mt me vs ρ b y d :=
  ⟨ρ1, ρ1, hs, ht, fun _ => ⟨hn, hw⟩, fun h => ⟨ρ1, he h, hn, hw⟩⟩
@[simp] theorem tru_b (b : Bool) : truD (.bool b) = some b := rfl
@[simp] theorem bool_b (b : Bool) : boolD (.bool b) = some b := rfl
@[simp] theorem items_l (xs : List D) : itemsD (.list xs) = some xs := rfl
@[simp] theorem items_t (xs : List D) : itemsD (.tuple xs) = some xs := rfl
@[simp] theorem len_l (xs : List D) : lenD (.list xs) = some (.int xs.length) := rfl
@[simp] theorem len_t (xs : List D) : lenD (.tuple xs) = some (.int xs.length) := rfl
@[simp] theorem ix_l0 (x : D) (xs : List D) : ixD (.list (x :: xs)) (.int 0) = some x := by
  show L2.atI (x :: xs) 0 = some x
  simp [L2.atI, L2.ixN]
@[simp] theorem ix_t0 (x : D) (xs : List D) : ixD (.tuple (x :: xs)) (.int 0) = some x := by
  show L2.atI (x :: xs) 0 = some x
  simp [L2.atI, L2.ixN]
@[simp] theorem ix_t1 (x y : D) (xs : List D) : ixD (.tuple (x :: y :: xs)) (.int 1) = some y := L2.atI_nat (xs := x :: y :: xs) (j := 1) rfl
@[simp] theorem ix_t2 (x y z : D) (xs : List D) : ixD (.tuple (x :: y :: z :: xs)) (.int 2) = some z := L2.atI_nat (xs := x :: y :: z :: xs) (j := 2) rfl
@[simp] theorem neg_i (i : Int) : negD (.int i) = some (.int (-i)) := rfl
@[simp] theorem intOf_i (i : Int) : intOfD (.int i) = some (.int i) := rfl
@[simp] theorem isT_int (i : Int) : isT PyData.isInt (.int i) = some (.bool true) := rfl
@[simp] theorem is_b (b c : Bool) : isD (.bool b) (.bool c) = some (.bool (b == c)) := rfl
@[simp] theorem nis_b (b c : Bool) : nisD (.bool b) (.bool c) = some (.bool (!(b == c))) := rfl
@[simp] theorem sl_nil : slotsOf [] = [] := rfl
@[simp] theorem sl_dat (d : D) (r : List CArg) : slotsOf (.dat d :: r) = slotsOf r := rfl
@[simp] theorem sl_slot (i : Nat) (r : List CArg) : slotsOf (.slot i :: r) = i :: slotsOf r := rfl
@[simp] theorem av_nil (ρ : Rho) : avs ρ [] = some [] := rfl
@[simp] theorem av_dat (ρ : Rho) (d : D) (r : List CArg) : avs ρ (.dat d :: r) = match avs ρ r with
  | some as => some (.dat d :: as)
  | none => none := rfl
@[simp] theorem put_nil (ρ : Rho) (cs : List Cell) : putOuts ρ [] cs = ρ := by unfold putOuts; rfl
theorem mul_ok {i j : Int} {a b : Nat} (hi : i.natAbs < 2 ^ a) (hj : j.natAbs < 2 ^ b) (ha : 0 < a) (hb : 0 < b) (h : a + b ≤ 1000000) : mulID (.int i) (.int j) = some (.int (i * j)) :=
  mulID_int (by have := log2_le hi ha; have := log2_le hj hb; omega)
@[simp] theorem outs_d (d : D) (as : List Av) (s : Option Sl) (ρ : Rho) : outsOf (.dat d :: as) (s :: ρ) = outsOf as ρ := rfl
@[simp] theorem outs_n (ρ : Rho) : outsOf [] ρ = some [] := by cases ρ <;> rfl

/-! ### a loop that puts rows behind a list -/
theorem rows_loop {g : TgM} {body : SS} (st : List D → Rho) (f : D → List D) (k N : Nat) : ∀ (ds : List D) (acc : List D), (∀ d ∈ ds, (f d).length ≤ k ∧ ∀ acc, acc.length + k ≤ N → ∃ ρ1, g d (st acc) = some ρ1 ∧ body ρ1 = some (.nx (st (acc ++ f d)))) → acc.length + ds.length * k ≤ N →
    loopM g body ds (st acc) = some (.nx (st (acc ++ ds.flatMap f)))
  | [], acc, _, _ => by simp [loopM]
  | d :: r, acc, h, hl => by
    obtain ⟨h1, h2⟩ := h d (by simp)
    rw [List.length_cons, Nat.succ_mul] at hl
    obtain ⟨ρ1, e1, e2⟩ := h2 acc (by omega)
    show (match g d (st acc) with | none => none | some ρ1 => S.turn body (loopM g body r) ρ1) = _
    rw [e1]
    show S.turn body (loopM g body r) ρ1 = _
    unfold S.turn
    rw [e2]
    show loopM g body r (st (acc ++ f d)) = _
    rw [rows_loop st f k N r (acc ++ f d) (fun d hd => h d (by simp [hd])) (by rw [List.length_append]; omega)]
    simp
theorem rows_for {ms : M (List D)} {g : TgM} {body : SS} {ρ : Rho} {ds : List D} (st : List D → Rho) (f : D → List D) (k N : Nat) {acc : List D} (hm : ms ρ = some (.val ds (st acc))) (h : ∀ d ∈ ds, (f d).length ≤ k ∧ ∀ acc, acc.length + k ≤ N → ∃ ρ1, g d (st acc) = some ρ1 ∧ body ρ1 = some (.nx (st (acc ++ f d)))) (hl : acc.length + ds.length * k ≤ N) :
    S.forS ms g body ρ = some (.nx (st (acc ++ ds.flatMap f))) := by
  unfold S.forS
  rw [of_val hm]
  exact rows_loop st f k N ds acc h hl
theorem len_flatMap {α β : Type} {f : α → List β} {k : Nat} : ∀ {l : List α}, (∀ x ∈ l, (f x).length ≤ k) → (l.flatMap f).length ≤ l.length * k
  | [], _ => by simp
  | x :: l, h => by
    rw [List.flatMap_cons, List.length_append, List.length_cons, Nat.succ_mul]
    have := h x (by simp)
    have := len_flatMap (l := l) fun y hy => h y (by simp [hy])
    omega
theorem rng2_int {i j : Int} (hi : okR i = true) (hj : okR j = true) : rng2D [.int i, .int j] = some ((rngI i j).map PyData.int) := by
  simp only [rng2D, hi, hj, and_self, if_true, rangeL_eq]
theorem okR_of {i : Int} (h1 : -(2 ^ 62) ≤ i) (h2 : i < 2 ^ 62) : okR i = true := by
  simp only [okR, Bool.and_eq_true, decide_eq_true_eq]
  exact ⟨h1, h2⟩
@[simp] theorem mutL_at (b : Bool) (ds : List D) (ρ : Rho) : mutL (some (.mut b (.lst ds)) :: ρ) 0 = some (b, ds) := rfl
@[simp] theorem mutL_s (s : Option Sl) (ρ : Rho) (i : Nat) : mutL (s :: ρ) (i + 1) = mutL ρ i := by
  unfold mutL
  simp
theorem run_ret {n N : Nat} {m : SS} {as : List Av} {d : D} {ρ' : Rho} {o : List Cell} (h : m (rho0 N as) = some (.ret d ρ')) (ho : outsOf as ρ' = some o) (hl : as.length = n ∧ n ≤ N) : runF n N m as = some (.ret d o) := by
  unfold runF
  rw [if_pos hl, h]
  simp [ho]
theorem run_retF {n N : Nat} {m : SS} {as : List Av} {d : Cell} {ρ' : Rho} {o : List Cell} (h : m (rho0 N as) = some (.retF d ρ')) (ho : outsOf as ρ' = some o) (hl : as.length = n ∧ n ≤ N) : runF n N m as = some (.retF d o) := by
  unfold runF
  rw [if_pos hl, h]
  simp [ho]
theorem flatMap_map {α β γ : Type} {f : α → List β} {g : β → γ} {h : γ → List β} : ∀ {l : List α} {k : α → γ}, (∀ x ∈ l, h (k x) = f x) → (l.map k).flatMap h = l.flatMap f
  | [], _, _ => rfl
  | x :: l, k, hh => by
    rw [List.map_cons, List.flatMap_cons, List.flatMap_cons, hh x (by simp), flatMap_map (l := l) (g := g) fun y hy => hh y (by simp [hy])]
/-- rows made of two ints each, no two alike -/
theorem nodup2 {α : Type} {ts ps : List Int} {f : Int → Int → List α} {key : α → Int × Int} (ht : ts.Pairwise (· < ·)) (hp : ps.Pairwise (· < ·)) (h1 : ∀ t p, (f t p).length ≤ 1) (hk : ∀ t p, ∀ r ∈ f t p, key r = (t, p)) : (ts.flatMap fun t => ps.flatMap (f t)).Nodup := by
  have one : ∀ l : List α, l.length ≤ 1 → l.Pairwise (· ≠ ·) := fun l hl => by
    match l, hl with
    | [], _ => exact .nil
    | [x], _ => simp
  refine List.pairwise_flatMap.mpr ⟨fun t _ => List.pairwise_flatMap.mpr ⟨fun p _ => one _ (h1 t p), hp.imp fun {p q} hlt x hx y hy e => ?_⟩, ht.imp fun {t u} hlt x hx y hy e => ?_⟩
  · have a := hk t p x hx
    have b := hk t q y hy
    rw [e, b] at a
    simp only [Prod.mk.injEq, true_and] at a
    omega
  · obtain ⟨p, _, hx⟩ := List.mem_flatMap.mp hx
    obtain ⟨q, _, hy⟩ := List.mem_flatMap.mp hy
    have a := hk t p x hx
    have b := hk u q y hy
    rw [e, b] at a
    simp only [Prod.mk.injEq] at a
    omega
end DL
namespace K95
open PySem PySem.Spec PyProof.Rows L2 DL

def topS (i : Nat) : Stmt := PySem.Challenge.pw_sawheld_k95_whole_corners_of_tails.main.body.getD i (.Pass ⟨0, 0, 0, 0⟩)
def k_LEAST_WIDE : D := .int 20
def k_MOST_WIDE : D := .int 1000
def k_MOST_PART : D := .int 200
abbrev s_is_number : Stmt := topS 1
abbrev n_is_number : List Str := ["value", "least", "most"]
theorem sc_is_number : FnScope n_is_number ["value", "least", "most"] (defScope s_is_number) := ⟨rfl, rfl, rfl, by decide +kernel, rfl, by decide +kernel, by decide +kernel⟩
def m_is_number : SS :=
    (S.ret (M.andV (M.un (isT PyData.isInt) (pkM 0)) (M.andV (M.notV (M.un (isT PyData.isBool) (pkM 0))) (M.chain leD leD (varM 1) (varM 0) (varM 2)))))
def F_is_number : Fn := runF 3 3 m_is_number
abbrev s_are_bounds : Stmt := topS 6
abbrev n_are_bounds : List Str := ["value", "one"]
theorem sc_are_bounds : FnScope n_are_bounds ["value"] (defScope s_are_bounds) := ⟨rfl, rfl, rfl, by decide +kernel, rfl, by decide +kernel, by decide +kernel⟩
def m_are_bounds : SS :=
    (S.seq (S.ife (M.or (M.notB (M.tru (M.un (isT PyData.isTuple) (pkM 0)))) (M.or (M.asB (M.bin neD (M.un lenD (pkM 0)) (M.ret (.int 2)))) (M.notB (M.tru (M.ge false (M.items (varM 0)) (tgN 1) M.yes (callM F_is_number (M.cdat (varM 1) (M.cdat (M.ret (.int 1)) (M.cdat (M.ret k_MOST_PART) (M.ret []))))) [1]))))) (S.ret (M.ret (.bool false))) S.nx)
    (S.ret (M.bin leD (M.bin ixD (varM 0) (M.ret (.int 0))) (M.bin ixD (varM 0) (M.ret (.int 1))))))
def F_are_bounds : Fn := runF 1 2 m_are_bounds
abbrev s_is_dovetail_board : Stmt := topS 7
abbrev n_is_dovetail_board : List Str := ["value"]
theorem sc_is_dovetail_board : FnScope n_is_dovetail_board ["value"] (defScope s_is_dovetail_board) := ⟨rfl, rfl, rfl, by decide +kernel, rfl, by decide +kernel, by decide +kernel⟩
def m_is_dovetail_board : SS :=
    (S.seq (S.ife (M.or (M.notB (M.tru (M.un (isT PyData.isTuple) (pkM 0)))) (M.or (M.asB (M.bin neD (M.un lenD (pkM 0)) (M.ret (.int 3)))) (M.notB (M.tru (callM F_is_number (M.cdat (M.bin ixD (varM 0) (M.ret (.int 0))) (M.cdat (M.ret k_LEAST_WIDE) (M.cdat (M.ret k_MOST_WIDE) (M.ret []))))))))) (S.ret (M.ret (.bool false))) S.nx)
    (S.ret (M.andV (callM F_are_bounds (M.cdat (M.bin ixD (varM 0) (M.ret (.int 1))) (M.ret []))) (callM F_are_bounds (M.cdat (M.bin ixD (varM 0) (M.ret (.int 2))) (M.ret []))))))
def F_is_dovetail_board : Fn := runF 1 1 m_is_dovetail_board
abbrev s_is_corner : Stmt := topS 8
abbrev n_is_corner : List Str := ["board", "value", "wide", "tails", "pins", "many", "tail", "pin"]
theorem sc_is_corner : FnScope n_is_corner ["board", "value"] (defScope s_is_corner) := ⟨rfl, rfl, rfl, by decide +kernel, rfl, by decide +kernel, by decide +kernel⟩
def m_is_corner : SS :=
    (S.seq (S.asg (varM 0) (tgT 3 (tgCons (tgN 2) (tgCons (tgN 3) (tgCons (tgN 4) tgNil)))))
    (S.seq (S.ife (M.or (M.notB (M.tru (M.un (isT PyData.isTuple) (pkM 1)))) (M.or (M.asB (M.bin neD (M.un lenD (pkM 1)) (M.ret (.int 3)))) (M.notB (M.tru (callM F_is_number (M.cdat (M.bin ixD (varM 1) (M.ret (.int 0))) (M.cdat (M.ret (.int 1)) (M.cdat (varM 2) (M.ret []))))))))) (S.ret (M.ret (.bool false))) S.nx)
    (S.seq (S.asg (varM 1) (tgT 3 (tgCons (tgN 5) (tgCons (tgN 6) (tgCons (tgN 7) tgNil)))))
    (S.seq (S.ife (M.or (M.notB (M.tru (callM F_is_number (M.cdat (varM 6) (M.cdat (M.bin ixD (varM 3) (M.ret (.int 0))) (M.cdat (M.bin ixD (varM 3) (M.ret (.int 1))) (M.ret []))))))) (M.notB (M.tru (callM F_is_number (M.cdat (varM 7) (M.cdat (M.bin ixD (varM 4) (M.ret (.int 0))) (M.cdat (M.bin ixD (varM 4) (M.ret (.int 1))) (M.ret [])))))))) (S.ret (M.ret (.bool false))) S.nx)
    (S.ret (M.andV (M.bin eqD (M.bin modD (M.un intOfD (pkM 7)) (M.ret (.int 2))) (M.ret (.int 0))) (M.bin eqD (M.bin mulID (varM 5) (M.bin addD (varM 6) (pkM 7))) (pkM 2))))))))
def F_is_corner : Fn := runF 2 8 m_is_corner
abbrev s_corners_of : Stmt := topS 9
abbrev n_corners_of : List Str := ["board", "fine", "wide", "tails", "pins", "found", "many", "pin", "corner"]
theorem sc_corners_of : FnScope n_corners_of ["board", "fine"] (defScope s_corners_of) := ⟨rfl, rfl, rfl, by decide +kernel, rfl, by decide +kernel, by decide +kernel⟩
def m_corners_of : SS :=
    (S.seq (S.asg (varM 0) (tgT 3 (tgCons (tgN 2) (tgCons (tgN 3) (tgCons (tgN 4) tgNil)))))
    (S.seq (S.setF (M.lst (M.ret [])) 5)
    (S.seq (S.forS (M.rng2 (M.cons (M.ret (.int 1)) (M.cons (M.bin addD (varM 2) (M.ret (.int 1))) (M.ret [])))) (tgN 6) (S.seq (S.forS (M.rng2 (M.cons (M.bin ixD (varM 4) (M.ret (.int 0))) (M.cons (M.bin addD (M.bin ixD (varM 4) (M.ret (.int 1))) (M.ret (.int 1))) (M.ret [])))) (tgN 7) (S.seq (S.seq (S.asg (M.tup (M.cons (varM 6) (M.cons (M.bin subD (M.bin fdivD (varM 2) (pkM 6)) (pkM 7)) (M.cons (varM 7) (M.ret []))))) (tgN 8))
    (S.ife (M.and (M.tru (callM F_is_corner (M.cdat (varM 0) (M.cdat (varM 8) (M.ret []))))) (M.or (M.notB (M.tru (pkM 1))) (M.asB (M.bin leD (M.bin mulID (M.ret (.int 2)) (pkM 7)) (M.bin ixD (varM 8) (M.ret (.int 1))))))) (S.drop (M.app 5 (varM 8))) S.nx)) (S.fgt [7, 8]))) (S.fgt [6, 7, 8])))
    (S.ret (M.un tupOf (M.cell (M.unF sortF (pkM 5))))))))
def F_corners_of : Fn := runF 2 9 m_corners_of
abbrev s_told_corner : Stmt := topS 10
abbrev n_told_corner : List Str := ["board", "fine", "marks", "many", "tail", "pin"]
theorem sc_told_corner : FnScope n_told_corner ["board", "fine"] (defScope s_told_corner) := ⟨rfl, rfl, rfl, by decide +kernel, rfl, by decide +kernel, by decide +kernel⟩
def m_told_corner : SS :=
    (S.seq (S.seq (S.setF (M.lc (M.items (callM F_corners_of (M.cdat (varM 0) (M.cdat (varM 1) (M.ret []))))) (tgT 3 (tgCons (tgN 3) (tgCons (tgN 4) (tgCons (tgN 5) tgNil)))) M.yes (M.tup (M.cons (varM 3) (M.cons (M.un negD (pkM 4)) (M.cons (varM 5) (M.ret []))))) [3, 4, 5]) 2) (S.frz 2))
    (S.ret (M.ife (M.asB (M.bin neD (varM 2) (M.cell (M.lst (M.ret []))))) (M.tup (M.cons (M.bin ixD (M.un minOf (pkM 2)) (M.ret (.int 0))) (M.cons (M.un negD (M.bin ixD (M.un minOf (pkM 2)) (M.ret (.int 1)))) (M.cons (M.bin ixD (M.un minOf (pkM 2)) (M.ret (.int 2))) (M.ret []))))) (M.ret .none))))
def F_told_corner : Fn := runF 2 6 m_told_corner
abbrev s_tails_that_fit : Stmt := topS 11
abbrev n_tails_that_fit : List Str := ["board", "many", "tail", "pin"]
theorem sc_tails_that_fit : FnScope n_tails_that_fit ["board"] (defScope s_tails_that_fit) := ⟨rfl, rfl, rfl, by decide +kernel, rfl, by decide +kernel, by decide +kernel⟩
def m_tails_that_fit : SS :=
    (S.ret (M.un tupOf (M.cell (M.sset (M.items (callM F_corners_of (M.cdat (varM 0) (M.cdat (M.ret (.bool false)) (M.ret []))))) (tgT 3 (tgCons (tgN 1) (tgCons (tgN 2) (tgCons (tgN 3) tgNil)))) M.yes (varM 1) [1, 2, 3]))))
def F_tails_that_fit : Fn := runF 1 4 m_tails_that_fit
abbrev s__law_open : Stmt := topS 13
abbrev n__law_open : List Str := ["script", "cells", "cell"]
theorem sc__law_open : FnScope n__law_open ["script"] (defScope s__law_open) := ⟨rfl, rfl, rfl, by decide +kernel, rfl, by decide +kernel, by decide +kernel⟩
def m__law_open : SS :=
    (S.seq (S.seq (S.setF (M.lc (M.items (M.sl (varM 0) (M.ret none) (M.part (M.ret (.int 63))))) (tgN 2) M.yes (M.un absD (M.un intOfD (pkM 2))) [2]) 1) (S.frz 1))
    (S.retF (M.lst (M.cons (M.ret (.int 0)) (M.cons (M.ret (.int 0)) (M.cons (M.bin addD (varM 1) (M.cell (M.lst (M.cons (M.ret (.int 0)) (M.ret []))))) (M.ret [])))))))
def F__law_open : Fn := runF 1 3 m__law_open
abbrev s__law_mixed : Stmt := topS 14
abbrev n__law_mixed : List Str := ["cell", "turn", "number"]
theorem sc__law_mixed : FnScope n__law_mixed ["cell", "turn"] (defScope s__law_mixed) := ⟨rfl, rfl, rfl, by decide +kernel, rfl, by decide +kernel, by decide +kernel⟩
def m__law_mixed : SS :=
    (S.seq (S.asg (M.bin modD (M.bin addD (M.bin addD (M.bin mulID (M.bin modD (varM 0) (M.bin subD (M.bin powD (M.ret (.int 2)) (M.ret (.int 61))) (M.ret (.int 1)))) (M.ret (.int 6364136223846793005))) (M.bin mulID (varM 1) (M.ret (.int 1442695040888963407)))) (M.ret (.int 97))) (M.bin powD (M.ret (.int 2)) (M.ret (.int 61)))) (tgN 2))
    (S.seq (S.asg (M.bin modD (M.bin mulID (M.bin xorD (varM 2) (M.bin shrD (varM 2) (M.ret (.int 29)))) (M.ret (.int 3935559000370003845))) (M.bin powD (M.ret (.int 2)) (M.ret (.int 61)))) (tgN 2))
    (S.ret (M.bin modD (M.bin mulID (M.bin xorD (varM 2) (M.bin shrD (varM 2) (M.ret (.int 31)))) (M.ret (.int 2862933555777941757))) (M.bin powD (M.ret (.int 2)) (M.ret (.int 61)))))))
def F__law_mixed : Fn := runF 2 3 m__law_mixed
abbrev s__law_draw : Stmt := topS 15
abbrev n__law_draw : List Str := ["draws", "size", "turn", "left", "cells", "cell"]
theorem sc__law_draw : FnScope n__law_draw ["draws", "size"] (defScope s__law_draw) := ⟨rfl, rfl, rfl, by decide +kernel, rfl, by decide +kernel, by decide +kernel⟩
def m__law_draw : SS :=
    (S.seq (S.unpL 0 3 (tgCons (tgN 2) (tgCons (tgN 3) (tgCons (tgN 4) tgNil))))
    (S.seq (S.ife (M.asB (M.bin ltD (varM 3) (pkM 1))) (S.seq (S.asg (M.bin ixD (varM 4) (M.bin modD (varM 2) (M.un lenD (pkM 4)))) (tgN 5))
    (S.seq (S.asg (M.ife (M.and (M.asB (M.bin ltD (varM 2) (M.un lenD (pkM 4)))) (M.asB (M.bin geD (varM 5) (M.bin powD (M.ret (.int 10)) (M.ret (.int 18)))))) (varM 5) (callM F__law_mixed (M.cdat (varM 5) (M.cdat (varM 2) (M.ret []))))) (tgN 3))
    (S.asg (M.bin addD (varM 2) (M.ret (.int 1))) (tgN 2)))) S.nx)
    (S.seq (S.setIx 0 (M.ret (.int 0)) (varM 2))
    (S.seq (S.setIx 0 (M.ret (.int 1)) (M.bin fdivD (varM 3) (pkM 1)))
    (S.ret (M.bin modD (varM 3) (pkM 1)))))))
def F__law_draw : Fn := runF 2 6 m__law_draw
abbrev s__law_int : Stmt := topS 16
abbrev n__law_int : List Str := ["value"]
theorem sc__law_int : FnScope n__law_int ["value"] (defScope s__law_int) := ⟨rfl, rfl, rfl, by decide +kernel, rfl, by decide +kernel, by decide +kernel⟩
def m__law_int : SS :=
    (S.ret (M.andV (M.un (isT PyData.isInt) (pkM 0)) (M.notV (M.un (isT PyData.isBool) (pkM 0)))))
def F__law_int : Fn := runF 1 1 m__law_int
abbrev s__law_same : Stmt := topS 17
abbrev n__law_same : List Str := ["told", "due"]
theorem sc__law_same : FnScope n__law_same ["told", "due"] (defScope s__law_same) := ⟨rfl, rfl, rfl, by decide +kernel, rfl, by decide +kernel, by decide +kernel⟩
def m__law_same : SS :=
    (S.ret (M.ife (M.tru (pkM 1)) (M.bin isD (varM 0) (M.ret (.bool true))) (M.bin isD (varM 0) (M.ret (.bool false)))))
def F__law_same : Fn := runF 2 2 m__law_same
abbrev s__law_corners : Stmt := topS 18
abbrev n__law_corners : List Str := ["board", "wide", "tails", "pins", "rows", "tail", "pin"]
theorem sc__law_corners : FnScope n__law_corners ["board"] (defScope s__law_corners) := ⟨rfl, rfl, rfl, by decide +kernel, rfl, by decide +kernel, by decide +kernel⟩
def m__law_corners : SS :=
    (S.seq (S.asg (varM 0) (tgT 3 (tgCons (tgN 1) (tgCons (tgN 2) (tgCons (tgN 3) tgNil)))))
    (S.seq (S.setF (M.lst (M.ret [])) 4)
    (S.seq (S.forS (M.rng2 (M.cons (M.bin ixD (varM 2) (M.ret (.int 0))) (M.cons (M.bin addD (M.bin ixD (varM 2) (M.ret (.int 1))) (M.ret (.int 1))) (M.ret [])))) (tgN 5) (S.seq (S.forS (M.rng2 (M.cons (M.bin ixD (varM 3) (M.ret (.int 0))) (M.cons (M.bin addD (M.bin ixD (varM 3) (M.ret (.int 1))) (M.ret (.int 1))) (M.ret [])))) (tgN 6) (S.seq (S.ife (M.and (M.asB (M.bin eqD (M.bin modD (M.un intOfD (pkM 6)) (M.ret (.int 2))) (M.ret (.int 0)))) (M.asB (M.bin eqD (M.bin modD (M.un intOfD (pkM 1)) (M.bin addD (varM 5) (pkM 6))) (M.ret (.int 0))))) (S.drop (M.app 4 (M.tup (M.cons (M.bin fdivD (varM 1) (M.bin addD (varM 5) (pkM 6))) (M.cons (varM 5) (M.cons (varM 6) (M.ret []))))))) S.nx) (S.fgt [6]))) (S.fgt [5, 6])))
    (S.ret (M.cell (M.unF sortF (pkM 4)))))))
def F__law_corners : Fn := runF 1 7 m__law_corners
abbrev s_law : Stmt := topS 19
abbrev n_law : List Str := ["script", "draws", "wide", "bounds", "k", "low", "board", "tails", "pins", "wrong", "every", "fine", "rows", "found", "marks", "due", "fits", "even", "twice", "base", "many", "tail", "pin", "values", "value", "good", "row", "one"]
theorem sc_law : FnScope n_law ["script"] (defScope s_law) := ⟨rfl, rfl, rfl, by decide +kernel, rfl, by decide +kernel, by decide +kernel⟩
def m_law : SS :=
    (S.seq (S.setF (callF F__law_open (M.cdat (varM 0) (M.ret []))) 1)
    (S.seq (S.parDF 2 3 (M.bin addD (M.ret (.int 20)) (callM F__law_draw (M.cslot 1 (M.cdat (M.bin ixD (M.cell (M.lst (M.cons (M.ret (.int 60)) (M.cons (M.ret (.int 981)) (M.ret []))))) (callM F__law_draw (M.cslot 1 (M.cdat (M.ret (.int 2)) (M.ret []))))) (M.ret []))))) (M.lst (M.ret [])))
    (S.seq (S.forS (M.rng1 (M.cons (M.ret (.int 2)) (M.ret []))) (tgN 4) (S.seq (S.seq (S.asg (M.bin addD (M.ret (.int 1)) (callM F__law_draw (M.cslot 1 (M.cdat (M.bin ixD (M.cell (M.lst (M.cons (M.ret (.int 12)) (M.cons (M.ret (.int 60)) (M.ret []))))) (callM F__law_draw (M.cslot 1 (M.cdat (M.ret (.int 2)) (M.ret []))))) (M.ret []))))) (tgN 5))
    (S.drop (M.app 3 (M.tup (M.cons (varM 5) (M.cons (M.bin minI (M.ret (.int 200)) (M.bin addD (varM 5) (callM F__law_draw (M.cslot 1 (M.cdat (M.bin ixD (M.cell (M.lst (M.cons (M.ret (.int 1)) (M.cons (M.ret (.int 2)) (M.cons (M.ret (.int 30)) (M.ret [])))))) (callM F__law_draw (M.cslot 1 (M.cdat (M.ret (.int 3)) (M.ret []))))) (M.ret [])))))) (M.ret []))))))) (S.fgt [4, 5])))
    (S.seq (S.asg (M.tup (M.cons (varM 2) (M.cons (M.ixV 3 (M.ret (.int 0))) (M.cons (M.ixV 3 (M.ret (.int 1))) (M.ret []))))) (tgN 6))
    (S.seq (S.asg (varM 6) (tgT 3 (tgCons (tgN 2) (tgCons (tgN 7) (tgCons (tgN 8) tgNil)))))
    (S.seq (S.asg (M.cell (M.lst (M.cons (M.ret .none) (M.cons (M.sl (varM 6) (M.ret none) (M.part (M.ret (.int 2)))) (M.cons (M.cell (M.unF lstOf (pkM 6))) (M.cons (M.bin addD (varM 6) (M.tup (M.cons (M.ret (.int 0)) (M.ret [])))) (M.cons (M.tup (M.cons (M.ret (.int 19)) (M.cons (varM 7) (M.cons (varM 8) (M.ret []))))) (M.cons (M.tup (M.cons (M.ret (.int 1001)) (M.cons (varM 7) (M.cons (varM 8) (M.ret []))))) (M.cons (M.tup (M.cons (M.ret (.bool true)) (M.cons (varM 7) (M.cons (varM 8) (M.ret []))))) (M.cons (M.tup (M.cons (M.ret .none) (M.cons (varM 7) (M.cons (varM 8) (M.ret []))))) (M.cons (M.tup (M.cons (varM 2) (M.cons (M.cell (M.unF lstOf (pkM 7))) (M.cons (varM 8) (M.ret []))))) (M.cons (M.tup (M.cons (varM 2) (M.cons (varM 7) (M.cons (M.cell (M.unF lstOf (pkM 8))) (M.ret []))))) (M.cons (M.tup (M.cons (varM 2) (M.cons (M.tup (M.cons (M.ret (.int 5)) (M.ret []))) (M.cons (varM 8) (M.ret []))))) (M.cons (M.tup (M.cons (varM 2) (M.cons (varM 7) (M.cons (M.tup (M.cons (M.ret (.int 5)) (M.cons (M.ret (.int 6)) (M.cons (M.ret (.int 7)) (M.ret []))))) (M.ret []))))) (M.cons (M.tup (M.cons (varM 2) (M.cons (M.tup (M.cons (M.ret (.int 6)) (M.cons (M.ret (.int 5)) (M.ret [])))) (M.cons (varM 8) (M.ret []))))) (M.cons (M.tup (M.cons (varM 2) (M.cons (varM 7) (M.cons (M.tup (M.cons (M.ret (.int 6)) (M.cons (M.ret (.int 5)) (M.ret [])))) (M.ret []))))) (M.cons (M.tup (M.cons (varM 2) (M.cons (M.tup (M.cons (M.ret (.int 0)) (M.cons (M.ret (.int 5)) (M.ret [])))) (M.cons (varM 8) (M.ret []))))) (M.cons (M.tup (M.cons (varM 2) (M.cons (varM 7) (M.cons (M.tup (M.cons (M.ret (.int 5)) (M.cons (M.ret (.int 201)) (M.ret [])))) (M.ret []))))) (M.cons (M.tup (M.cons (varM 2) (M.cons (M.tup (M.cons (M.ret (.bool true)) (M.cons (M.ret (.int 5)) (M.ret [])))) (M.cons (varM 8) (M.ret []))))) (M.cons (M.tup (M.cons (varM 2) (M.cons (varM 7) (M.cons (M.tup (M.cons (M.ret (.int 5)) (M.cons (M.ret .none) (M.ret [])))) (M.ret []))))) (M.cons (M.ret (.int 5)) (M.ret [])))))))))))))))))))))) (tgN 9))
    (S.seq (S.ife (M.or (M.asB (M.bin nisD (callM F_is_dovetail_board (M.cdat (varM 6) (M.ret []))) (M.ret (.bool true)))) (M.or (M.asB (M.bin nisD (callM F_is_dovetail_board (M.cdat (M.tup (M.cons (M.ret (.int 1000)) (M.cons (M.tup (M.cons (M.ret (.int 200)) (M.cons (M.ret (.int 200)) (M.ret [])))) (M.cons (M.tup (M.cons (M.ret (.int 1)) (M.cons (M.ret (.int 200)) (M.ret [])))) (M.ret []))))) (M.ret []))) (M.ret (.bool true)))) (M.asB (M.bin neD (M.cell (M.lc (M.items (varM 9)) (tgN 24) (M.asB (M.bin nisD (callM F_is_dovetail_board (M.cdat (varM 24) (M.ret []))) (M.ret (.bool false)))) (varM 24) [24])) (M.cell (M.lst (M.ret []))))))) (S.ret (M.ret (.bool false))) S.nx)
    (S.seq (S.asg (callM F__law_corners (M.cdat (varM 6) (M.ret []))) (tgN 10))
    (S.seq (S.forS (M.items (M.tup (M.cons (M.ret (.bool true)) (M.cons (M.ret (.bool false)) (M.ret []))))) (tgN 11) (S.seq (S.seq (S.seq (S.setF (M.lc (M.items (varM 10)) (tgN 26) (M.or (M.notB (M.tru (pkM 11))) (M.asB (M.bin leD (M.bin mulID (M.ret (.int 2)) (M.bin ixD (varM 26) (M.ret (.int 2)))) (M.bin ixD (varM 26) (M.ret (.int 1)))))) (varM 26) [26]) 12) (S.frz 12))
    (S.seq (S.asg (callM F_corners_of (M.cdat (varM 6) (M.cdat (varM 11) (M.ret [])))) (tgN 13))
    (S.seq (S.seq (S.setF (M.lc (M.items (varM 12)) (tgT 3 (tgCons (tgN 20) (tgCons (tgN 21) (tgCons (tgN 22) tgNil)))) M.yes (M.tup (M.cons (varM 20) (M.cons (M.un negD (pkM 21)) (M.cons (varM 22) (M.ret []))))) [20, 21, 22]) 14) (S.frz 14))
    (S.seq (S.asg (M.ife (M.asB (M.bin neD (varM 14) (M.cell (M.lst (M.ret []))))) (M.tup (M.cons (M.bin ixD (M.un minOf (pkM 14)) (M.ret (.int 0))) (M.cons (M.un negD (M.bin ixD (M.un minOf (pkM 14)) (M.ret (.int 1)))) (M.cons (M.bin ixD (M.un minOf (pkM 14)) (M.ret (.int 2))) (M.ret []))))) (M.ret .none)) (tgN 15))
    (S.ife (M.or (M.asB (M.bin neD (varM 13) (M.un tupOf (pkM 12)))) (M.or (M.asB (M.bin neD (M.cell (M.lc (M.items (varM 13)) (tgN 26) (M.or (M.notB (M.tru (callM F__law_int (M.cdat (M.bin ixD (varM 26) (M.ret (.int 0))) (M.ret []))))) (M.or (M.notB (M.tru (callM F__law_int (M.cdat (M.bin ixD (varM 26) (M.ret (.int 1))) (M.ret []))))) (M.notB (M.tru (callM F__law_int (M.cdat (M.bin ixD (varM 26) (M.ret (.int 2))) (M.ret []))))))) (varM 26) [26])) (M.cell (M.lst (M.ret []))))) (M.asB (M.bin neD (callM F_told_corner (M.cdat (varM 6) (M.cdat (varM 11) (M.ret [])))) (pkM 15))))) (S.ret (M.ret (.bool false))) S.nx))))) (S.fgt [11, 12, 13, 14, 15])))
    (S.seq (S.asg (M.cell (M.unF sortF (M.cell (M.lc (M.keysF (M.unF dictOf (M.cell (M.lc (M.items (varM 10)) (tgN 26) M.yes (M.tup (M.cons (M.bin ixD (varM 26) (M.ret (.int 0))) (M.cons (M.ret (.int 1)) (M.ret [])))) [26])))) (tgN 20) M.yes (varM 20) [20])))) (tgN 16))
    (S.seq (S.ife (M.asB (M.bin neD (callM F_tails_that_fit (M.cdat (varM 6) (M.ret []))) (M.un tupOf (pkM 16)))) (S.ret (M.ret (.bool false))) S.nx)
    (S.seq (S.asg (M.cell (M.lc (M.rng2 (M.cons (M.bin ixD (varM 8) (M.ret (.int 0))) (M.cons (M.bin addD (M.bin ixD (varM 8) (M.ret (.int 1))) (M.ret (.int 1))) (M.ret [])))) (tgN 22) (M.asB (M.bin eqD (M.bin modD (M.un intOfD (pkM 22)) (M.ret (.int 2))) (M.ret (.int 0)))) (varM 22) [22])) (tgN 17))
    (S.seq (S.ife (M.and (M.asB (M.bin ltD (M.bin ixD (varM 7) (M.ret (.int 0))) (M.bin ixD (varM 7) (M.ret (.int 1))))) (M.asB (M.bin neD (varM 17) (M.cell (M.lst (M.ret [])))))) (S.seq (S.seq (S.setF (M.lc (M.rng2 (M.cons (M.ret (.int 1)) (M.cons (M.bin addD (varM 2) (M.ret (.int 1))) (M.ret [])))) (tgN 20) (M.and (M.asB (M.bin eqD (M.bin modD (M.un intOfD (pkM 2)) (pkM 20)) (M.ret (.int 0)))) (M.asB (M.chain leD leD (M.bin addD (M.bin ixD (varM 7) (M.ret (.int 0))) (M.bin ixD (varM 17) (M.ret (.int 0)))) (M.bin fdivD (varM 2) (pkM 20)) (M.bin addD (M.bin ixD (varM 7) (M.ret (.int 1))) (M.bin ixD (varM 17) (M.un negD (M.ret (.int 1)))))))) (varM 20) [20]) 15) (S.frz 15))
    (S.ife (M.asB (M.bin neD (varM 15) (pkM 16))) (S.ret (M.ret (.bool false))) S.nx)) S.nx)
    (S.seq (S.ife (M.and (M.asB (M.bin ltD (varM 2) (M.ret (.int 501)))) (M.asB (M.bin ltD (M.un maxOf (M.bin addD (varM 7) (pkM 8))) (M.ret (.int 101))))) (S.seq (S.asg (M.tup (M.cons (M.bin mulID (M.ret (.int 2)) (pkM 2)) (M.cons (M.tup (M.cons (M.bin mulID (M.ret (.int 2)) (M.bin ixD (varM 7) (M.ret (.int 0)))) (M.cons (M.bin mulID (M.ret (.int 2)) (M.bin ixD (varM 7) (M.ret (.int 1)))) (M.ret [])))) (M.cons (M.tup (M.cons (M.bin mulID (M.ret (.int 2)) (M.bin ixD (varM 8) (M.ret (.int 0)))) (M.cons (M.bin mulID (M.ret (.int 2)) (M.bin ixD (varM 8) (M.ret (.int 1)))) (M.ret [])))) (M.ret []))))) (tgN 18))
    (S.ife (M.asB (M.bin neD (M.cell (M.lc (M.items (varM 10)) (tgN 26) (M.asB (M.bin nisD (callM F_is_corner (M.cdat (varM 18) (M.cdat (M.tup (M.cons (M.bin ixD (varM 26) (M.ret (.int 0))) (M.cons (M.bin mulID (M.ret (.int 2)) (M.bin ixD (varM 26) (M.ret (.int 1)))) (M.cons (M.bin mulID (M.ret (.int 2)) (M.bin ixD (varM 26) (M.ret (.int 2)))) (M.ret []))))) (M.ret [])))) (M.ret (.bool true)))) (varM 26) [26])) (M.cell (M.lst (M.ret []))))) (S.ret (M.ret (.bool false))) S.nx)) S.nx)
    (S.seq (S.asg (M.ife (M.asB (M.bin neD (varM 10) (M.cell (M.lst (M.ret []))))) (M.bin ixD (varM 10) (callM F__law_draw (M.cslot 1 (M.cdat (M.un lenD (pkM 10)) (M.ret []))))) (M.tup (M.cons (M.ret (.int 1)) (M.cons (M.bin ixD (varM 7) (M.ret (.int 0))) (M.cons (M.bin ixD (varM 8) (M.ret (.int 0))) (M.ret [])))))) (tgN 19))
    (S.seq (S.asg (varM 19) (tgT 3 (tgCons (tgN 20) (tgCons (tgN 21) (tgCons (tgN 22) tgNil)))))
    (S.seq (S.asg (M.cell (M.lst (M.cons (varM 19) (M.cons (M.tup (M.cons (M.bin addD (varM 20) (M.ret (.int 1))) (M.cons (varM 21) (M.cons (varM 22) (M.ret []))))) (M.cons (M.tup (M.cons (varM 20) (M.cons (M.bin addD (varM 21) (M.ret (.int 1))) (M.cons (M.bin subD (varM 22) (M.ret (.int 1))) (M.ret []))))) (M.cons (M.tup (M.cons (varM 20) (M.cons (M.bin subD (varM 21) (M.ret (.int 2))) (M.cons (M.bin addD (varM 22) (M.ret (.int 2))) (M.ret []))))) (M.cons (M.tup (M.cons (varM 20) (M.cons (M.bin addD (varM 21) (M.ret (.int 2))) (M.cons (M.bin subD (varM 22) (M.ret (.int 2))) (M.ret []))))) (M.cons (M.tup (M.cons (varM 20) (M.cons (varM 21) (M.cons (M.bin addD (varM 22) (M.ret (.int 1))) (M.ret []))))) (M.cons (M.cell (M.unF lstOf (pkM 19))) (M.cons (M.sl (varM 19) (M.ret none) (M.part (M.ret (.int 2)))) (M.cons (M.bin addD (varM 19) (M.tup (M.cons (M.ret (.int 0)) (M.ret [])))) (M.cons (M.tup (M.cons (M.ret (.int 0)) (M.cons (varM 21) (M.cons (varM 22) (M.ret []))))) (M.cons (M.tup (M.cons (M.un negD (pkM 20)) (M.cons (M.un negD (pkM 21)) (M.cons (M.un negD (pkM 22)) (M.ret []))))) (M.cons (M.tup (M.cons (M.ret .none) (M.cons (varM 21) (M.cons (varM 22) (M.ret []))))) (M.cons (M.tup (M.cons (varM 20) (M.cons (M.ret .none) (M.cons (varM 22) (M.ret []))))) (M.cons (M.tup (M.cons (varM 20) (M.cons (varM 21) (M.cons (M.ret .none) (M.ret []))))) (M.cons (M.tup (M.cons (M.ret (.bool true)) (M.cons (varM 21) (M.cons (varM 22) (M.ret []))))) (M.cons (M.tup (M.ret [])) (M.cons (M.ret .none) (M.cons (M.ret (.int 5)) (M.ret []))))))))))))))))))))) (tgN 23))
    (S.seq (S.forS (M.items (varM 23)) (tgN 24) (S.seq (S.seq (S.asg (M.andV (M.un (isT PyData.isTuple) (pkM 24)) (M.andV (M.bin eqD (M.cell (M.lc (M.items (varM 24)) (tgN 27) (M.notB (M.tru (callM F__law_int (M.cdat (varM 27) (M.ret []))))) (varM 27) [27])) (M.cell (M.lst (M.ret [])))) (M.bin inD (varM 24) (pkM 10)))) (tgN 25))
    (S.ife (M.notB (M.tru (callM F__law_same (M.cdat (callM F_is_corner (M.cdat (varM 6) (M.cdat (varM 24) (M.ret [])))) (M.cdat (varM 25) (M.ret [])))))) (S.ret (M.ret (.bool false))) S.nx)) (S.fgt [24, 25])))
    (S.ret (M.ret (.bool true)))))))))))))))))))))
def F_law : Fn := runF 1 28 m_law
section
variable {P : Program} {w : World} {K : PySem.W.Frag} {mg : Str → Option Value} {base : Heap} {T : Addr → Prop}
theorem ok_is_number {f : Addr} {fd : FuncData} (F : L2.Fun K "is_number" "is_number" s_is_number f fd) (z_isinstance : mg "isinstance" = none) (z_bool : mg "bool" = none) (z_int : mg "int" = none) : FnOk P w K mg base (L2.CX P w) 1 f fd ["value", "least", "most"] (spF K mg T F_is_number) := by
  have nd := (sc_is_number).nd
  exact fn_body F sc_is_number fun cdv A outer s H E gA gH gi gq hr => by
    exact (dss_one (ds_ret (de_and (de_isa isa_int (dpk 0) z_isinstance z_int) (de_and (de_not (de_isa isa_bool (dpk 0) z_isinstance z_bool)) (de_one (de_chain (op_leR (units64 hr)) (op_leR (units64 hr)) od_r od_r (dv 1) (dv 0) (dv 2)))))))
theorem ok_are_bounds {f c q : Addr} {fd : FuncData} (F : L2.Fun K "are_bounds" "are_bounds" s_are_bounds f fd) (d_is_number : Def P w K mg base T 1 "is_number" F_is_number) (z_all : mg "all" = none) (z_len : mg "len" = none) (z_isinstance : mg "isinstance" = none) (z_tuple : mg "tuple" = none) (c_MOST_PART : Con K mg "MOST_PART" k_MOST_PART) (hc : fd.code = .ref c) (tb : GxR.TabB base mg c q) (hq : T q) : FnOk P w K mg base (L2.CX P w) 3 f fd ["value"] (spF K mg T F_are_bounds) := by
  have nd := (sc_are_bounds).nd
  exact fn_bodyG F sc_are_bounds hc fun A outer s H E gA gH gi gq hr => by
    have go : GenOk (cxOf (L2.CX P w) P w K mg base n_are_bounds "are_bounds" (defScope s_are_bounds) f (.ref c) A outer s H E) ⟨K, mg, gA, gH, gi, gq, T⟩ := ⟨c, q, tb, rfl, hq⟩
    exact (dss_cons (ds_if (dt_w (dw_or (dt_not (dt_tru (dk (de_isa isa_tup (dpk 0) z_isinstance z_tuple)))) (dw_or (dt_cmp (op_neR (units64 hr)) od_r (de_b1 cb_len (dpk 0) (hm := z_len)) (dk de_int) (nomark _)) (dw_or1 (dt_not (dt_tru (dk (de_all [("one", 1)] rfl nd go hr (blkOk_by (N := n_are_bounds) (sc := defScope s_are_bounds) (by decide +kernel)) z_all (di_items (dv 0)) (fun _ _ _ _ _ _ hr => (dgv_name 1 nd)) (fun _ _ _ _ _ _ hr => dts_nil) (fun _ _ _ _ _ _ hr => (de_call d_is_number hr (by decide) takes0 (dc_dat (dv 1) (dc_dat de_int (dc_dat (de_con c_MOST_PART) dc_nil))))))))))))) (dss_one (ds_ret de_bl)) dss_nil)
    (dss_one (ds_ret (de_le hr (de_ix (dv 0) (dk de_int)) (dk (de_ix (dv 0) (dk de_int)))))))
theorem ok_is_dovetail_board {f : Addr} {fd : FuncData} (F : L2.Fun K "is_dovetail_board" "is_dovetail_board" s_is_dovetail_board f fd) (d_are_bounds : Def P w K mg base T 3 "are_bounds" F_are_bounds) (d_is_number : Def P w K mg base T 1 "is_number" F_is_number) (z_len : mg "len" = none) (z_isinstance : mg "isinstance" = none) (z_tuple : mg "tuple" = none) (c_MOST_WIDE : Con K mg "MOST_WIDE" k_MOST_WIDE) (c_LEAST_WIDE : Con K mg "LEAST_WIDE" k_LEAST_WIDE) : FnOk P w K mg base (L2.CX P w) 4 f fd ["value"] (spF K mg T F_is_dovetail_board) := by
  have nd := (sc_is_dovetail_board).nd
  exact fn_body F sc_is_dovetail_board fun cdv A outer s H E gA gH gi gq hr => by
    exact (dss_cons (ds_if (dt_w (dw_or (dt_not (dt_tru (dk (de_isa isa_tup (dpk 0) z_isinstance z_tuple)))) (dw_or (dt_cmp (op_neR (units64 hr)) od_r (de_b1 cb_len (dpk 0) (hm := z_len)) (dk de_int) (nomark _)) (dw_or1 (dt_not (dt_tru (dk (de_call d_is_number hr (by decide) (takes_of rfl rfl rfl rfl) (dc_dat (de_ix (dv 0) (dk de_int)) (dc_dat (de_con c_LEAST_WIDE) (dc_dat (de_con c_MOST_WIDE) dc_nil))))))))))) (dss_one (ds_ret de_bl)) dss_nil)
    (dss_one (ds_ret (de_and (de_call d_are_bounds hr (by decide) (takes_of rfl rfl rfl rfl) (dc_dat (de_ix (dv 0) (dk de_int)) dc_nil)) (de_one (de_call d_are_bounds hr (by decide) (takes_of rfl rfl rfl rfl) (dc_dat (de_ix (dv 0) (dk de_int)) dc_nil)))))))
theorem ok_is_corner {f : Addr} {fd : FuncData} (F : L2.Fun K "is_corner" "is_corner" s_is_corner f fd) (d_is_number : Def P w K mg base T 1 "is_number" F_is_number) (z_int : mg "int" = none) (z_len : mg "len" = none) (z_isinstance : mg "isinstance" = none) (z_tuple : mg "tuple" = none) : FnOk P w K mg base (L2.CX P w) 2 f fd ["board", "value"] (spF K mg T F_is_corner) := by
  have nd := (sc_is_corner).nd
  exact fn_body F sc_is_corner fun cdv A outer s H E gA gH gi gq hr => by
    exact (dss_cons (ds_asg (dv 0) (dg_tup rfl (dgs_cons (dg_name 2 nd) (dgs_cons (dg_name 3 nd) (dgs_cons (dg_name 4 nd) dgs_nil)))))
    (dss_cons (ds_if (dt_w (dw_or (dt_not (dt_tru (dk (de_isa isa_tup (dpk 1) z_isinstance z_tuple)))) (dw_or (dt_cmp (op_neR (units64 hr)) od_r (de_b1 cb_len (dpk 1) (hm := z_len)) (dk de_int) (nomark _)) (dw_or1 (dt_not (dt_tru (dk (de_call d_is_number hr (by decide) (takes_of rfl rfl rfl rfl) (dc_dat (de_ix (dv 1) (dk de_int)) (dc_dat de_int (dc_dat (dv 2) dc_nil))))))))))) (dss_one (ds_ret de_bl)) dss_nil)
    (dss_cons (ds_asg (dv 1) (dg_tup rfl (dgs_cons (dg_name 5 nd) (dgs_cons (dg_name 6 nd) (dgs_cons (dg_name 7 nd) dgs_nil)))))
    (dss_cons (ds_if (dt_w (dw_or (dt_not (dt_tru (dk (de_call d_is_number hr (by decide) (takes_of rfl rfl rfl rfl) (dc_dat (dv 6) (dc_dat (de_ix (dv 3) (dk de_int)) (dc_dat (de_ix (dv 3) (dk de_int)) dc_nil))))))) (dw_or1 (dt_not (dt_tru (dk (de_call d_is_number hr (by decide) (takes_of rfl rfl rfl rfl) (dc_dat (dv 7) (dc_dat (de_ix (dv 4) (dk de_int)) (dc_dat (de_ix (dv 4) (dk de_int)) dc_nil)))))))))) (dss_one (ds_ret de_bl)) dss_nil)
    (dss_one (ds_ret (de_and (de_eq hr (de_mod (de_t1 cb_int (dpk 7) (hm := z_int)) (dk de_int)) (dk de_int)) (de_one (de_eq hr (de_mul (dv 5) (dk (de_add (dv 6) (dpk 7)))) (dpk 2))))))))))
theorem ok_corners_of {f : Addr} {fd : FuncData} (F : L2.Fun K "corners_of" "corners_of" s_corners_of f fd) (d_is_corner : Def P w K mg base T 2 "is_corner" F_is_corner) (z_sorted : mg "sorted" = none) (z_tuple : mg "tuple" = none) (z_range : mg "range" = none) : FnOk P w K mg base (L2.CX P w) 3 f fd ["board", "fine"] (spF K mg T F_corners_of) := by
  have nd := (sc_corners_of).nd
  exact fn_body F sc_corners_of fun cdv A outer s H E gA gH gi gq hr => by
    exact (dss_cons (ds_asg (dv 0) (dg_tup rfl (dgs_cons (dg_name 2 nd) (dgs_cons (dg_name 3 nd) (dgs_cons (dg_name 4 nd) dgs_nil)))))
    (dss_cons (ds_setF 5 nd (df_lst da_nil))
    (dss_cons (ds_for (passes_of rfl) rfl (di_range2 z_range (da_cons de_int (da_cons (de_add (dv 2) (dk de_int)) da_nil))) (dg_name 6 nd) (dss_fgt [6, 7, 8] (dss_one (ds_for (passes_of rfl) rfl (di_range2 z_range (da_cons (de_ix (dv 4) (dk de_int)) (da_cons (de_add (de_ix (dv 4) (dk de_int)) (dk de_int)) da_nil))) (dg_name 7 nd) (dss_fgt [7, 8] (dss_cons (ds_set 8 nd (de_tup (da_cons (dv 6) (da_cons (de_sub (de_fdiv (dv 2) (dpk 6)) (dpk 7)) (da_cons (dv 7) da_nil)))))
    (dss_one (ds_if (dt_w (dw_and (dt_tru (dk (de_call d_is_corner hr (by decide) (takes_of rfl rfl rfl rfl) (dc_dat (dv 0) (dc_dat (dv 8) dc_nil))))) (dw_and1 (dt_w (dw_or (dt_not (dt_tru (dpk 1))) (dw_or1 (dt_cmp (op_leR (units64 hr)) od_r (de_mul de_int (dpk 7)) (dk (de_ix (dv 8) (dk de_int))) (nomark _)))))))) (dss_one (ds_expr (de_append 5 (dv 8)))) dss_nil))))))))
    (dss_one (ds_ret (de_t1 cb_tup (dk (de_f (df_b1 (cb_sort (units70 hr)) (dpk 5) (hm := z_sorted)))) (hm := z_tuple)))))))
theorem ok_told_corner {f : Addr} {fd : FuncData} (F : L2.Fun K "told_corner" "told_corner" s_told_corner f fd) (d_corners_of : Def P w K mg base T 3 "corners_of" F_corners_of) (z_min : mg "min" = none) : FnOk P w K mg base (L2.CX P w) 4 f fd ["board", "fine"] (spF K mg T F_told_corner) := by
  have nd := (sc_told_corner).nd
  exact fn_body F sc_told_corner fun cdv A outer s H E gA gH gi gq hr => by
    exact (dss_cons (ds_frz 2 (ds_setLc 2 [("many", 3), ("tail", 4), ("pin", 5)] rfl nd (blkOk_by (N := n_told_corner) (sc := defScope s_told_corner) (by decide +kernel)) (di_items (de_call d_corners_of hr (by decide) (takes_of rfl rfl rfl rfl) (dc_dat (dv 0) (dc_dat (dv 1) dc_nil)))) (fun _ _ _ _ _ _ _ => (dgv_tup rfl (dgvs_cons (dgv_name 3 nd) (dgvs_cons (dgv_name 4 nd) (dgvs_cons (dgv_name 5 nd) dgvs_nil))))) (fun _ _ _ _ _ _ _ => dts_nil) (fun _ _ _ _ _ _ _ => (de_tup (da_cons (dv 3) (da_cons (de_neg (dpk 4)) (da_cons (dv 5) da_nil)))))))
    (dss_one (ds_ret (de_if (dt_cmp (op_neR (units64 hr)) od_r (dv 2) (dk (de_f (df_lst da_nil))) (nomark _)) (de_tup (da_cons (de_ix (de_b1 (cb_min rfl (units70 hr)) (dpk 2) (hm := z_min)) (dk de_int)) (da_cons (de_neg (dk (de_ix (de_b1 (cb_min rfl (units70 hr)) (dpk 2) (hm := z_min)) (dk de_int)))) (da_cons (de_ix (de_b1 (cb_min rfl (units70 hr)) (dpk 2) (hm := z_min)) (dk de_int)) da_nil)))) de_non))))
theorem ok_tails_that_fit {f : Addr} {fd : FuncData} (F : L2.Fun K "tails_that_fit" "tails_that_fit" s_tails_that_fit f fd) (d_corners_of : Def P w K mg base T 3 "corners_of" F_corners_of) (z_sorted : mg "sorted" = none) (z_tuple : mg "tuple" = none) : FnOk P w K mg base (L2.CX P w) 4 f fd ["board"] (spF K mg T F_tails_that_fit) := by
  have nd := (sc_tails_that_fit).nd
  exact fn_body F sc_tails_that_fit fun cdv A outer s H E gA gH gi gq hr => by
    exact (dss_one (ds_ret (de_t1 cb_tup (dk (de_f (df_sset [("many", 1), ("tail", 2), ("pin", 3)] rfl nd (blkOk_by (N := n_tails_that_fit) (sc := defScope s_tails_that_fit) (by decide +kernel)) z_sorted (di_items (de_call d_corners_of hr (by decide) (takes_of rfl rfl rfl rfl) (dc_dat (dv 0) (dc_dat de_bl dc_nil)))) (fun _ _ _ _ _ _ _ => (dgv_tup rfl (dgvs_cons (dgv_name 1 nd) (dgvs_cons (dgv_name 2 nd) (dgvs_cons (dgv_name 3 nd) dgvs_nil))))) (fun _ _ _ _ _ _ _ => dts_nil) (fun _ _ _ _ _ _ _ => (dv 1))))) (hm := z_tuple))))
theorem ok__law_open {f : Addr} {fd : FuncData} (F : L2.Fun K "_law_open" "_law_open" s__law_open f fd) (z_int : mg "int" = none) (z_abs : mg "abs" = none) : FnOk P w K mg base (L2.CX P w) 1 f fd ["script"] (spF K mg T F__law_open) := by
  have nd := (sc__law_open).nd
  exact fn_body F sc__law_open fun cdv A outer s H E gA gH gi gq hr => by
    exact (dss_cons (ds_frz 1 (ds_setLc 1 [("cell", 2)] rfl nd (blkOk_by (N := n__law_open) (sc := defScope s__law_open) (by decide +kernel)) (di_items (de_slice (dv 0) dp_none (dp_some de_int))) (fun _ _ _ _ _ _ _ => (dgv_name 2 nd)) (fun _ _ _ _ _ _ _ => dts_nil) (fun _ _ _ _ _ _ _ => (de_b1 cb_abs (dk (de_t1 cb_int (dpk 2) (hm := z_int))) (hm := z_abs)))))
    (dss_one (ds_retF (df_lst (da_cons de_int (da_cons de_int (da_cons (de_add (dv 1) (dk (de_f (df_lst (da_cons de_int da_nil))))) da_nil)))))))
theorem ok__law_mixed {f : Addr} {fd : FuncData} (F : L2.Fun K "_law_mixed" "_law_mixed" s__law_mixed f fd) : FnOk P w K mg base (L2.CX P w) 1 f fd ["cell", "turn"] (spF K mg T F__law_mixed) := by
  have nd := (sc__law_mixed).nd
  exact fn_body F sc__law_mixed fun cdv A outer s H E gA gH gi gq hr => by
    exact (dss_cons (ds_set 2 nd (de_mod (de_add (de_add (de_mul (de_mod (dv 0) (dk (de_sub (de_pow de_int (dk de_int)) (dk de_int)))) (dk de_int)) (dk (de_mul (dv 1) (dk de_int)))) (dk de_int)) (dk (de_pow de_int (dk de_int)))))
    (dss_cons (ds_set 2 nd (de_mod (de_mul (de_xor (dv 2) (dk (de_shr (dv 2) (dk de_int)))) (dk de_int)) (dk (de_pow de_int (dk de_int)))))
    (dss_one (ds_ret (de_mod (de_mul (de_xor (dv 2) (dk (de_shr (dv 2) (dk de_int)))) (dk de_int)) (dk (de_pow de_int (dk de_int))))))))
theorem ok__law_draw {f : Addr} {fd : FuncData} (F : L2.Fun K "_law_draw" "_law_draw" s__law_draw f fd) (d__law_mixed : Def P w K mg base T 1 "_law_mixed" F__law_mixed) (z_len : mg "len" = none) : FnOk P w K mg base (L2.CX P w) 2 f fd ["draws", "size"] (spF K mg T F__law_draw) := by
  have nd := (sc__law_draw).nd
  exact fn_body F sc__law_draw fun cdv A outer s H E gA gH gi gq hr => by
    exact (dss_cons (ds_unpL 0 rfl (dgs_cons (dg_name 2 nd) (dgs_cons (dg_name 3 nd) (dgs_cons (dg_name 4 nd) dgs_nil))))
    (dss_cons (ds_if (dt_cmp (op_ltR (units64 hr)) od_r (dv 3) (dpk 1) (nomark _)) (dss_cons (ds_set 5 nd (de_ix (dv 4) (dk (de_mod (dv 2) (dk (de_b1 cb_len (dpk 4) (hm := z_len)))))))
    (dss_cons (ds_set 3 nd (de_if (dt_w (dw_and (dt_cmp (op_ltR (units64 hr)) od_r (dv 2) (dk (de_b1 cb_len (dpk 4) (hm := z_len))) (nomark _)) (dw_and1 (dt_cmp (op_geR (units64 hr)) od_r (dv 5) (dk (de_pow de_int (dk de_int))) (nomark _))))) (dv 5) (de_call d__law_mixed hr (by decide) (takes_of rfl rfl rfl rfl) (dc_dat (dv 5) (dc_dat (dv 2) dc_nil)))))
    (dss_one (ds_set 2 nd (de_add (dv 2) (dk de_int)))))) dss_nil)
    (dss_cons (ds_setIx 0 (dv 2) de_int)
    (dss_cons (ds_setIx 0 (de_fdiv (dv 3) (dpk 1)) de_int)
    (dss_one (ds_ret (de_mod (dv 3) (dpk 1))))))))
theorem ok__law_int {f : Addr} {fd : FuncData} (F : L2.Fun K "_law_int" "_law_int" s__law_int f fd) (z_isinstance : mg "isinstance" = none) (z_bool : mg "bool" = none) (z_int : mg "int" = none) : FnOk P w K mg base (L2.CX P w) 1 f fd ["value"] (spF K mg T F__law_int) := by
  have nd := (sc__law_int).nd
  exact fn_body F sc__law_int fun cdv A outer s H E gA gH gi gq hr => by
    exact (dss_one (ds_ret (de_and (de_isa isa_int (dpk 0) z_isinstance z_int) (de_one (de_not (de_isa isa_bool (dpk 0) z_isinstance z_bool))))))
theorem ok__law_same {f : Addr} {fd : FuncData} (F : L2.Fun K "_law_same" "_law_same" s__law_same f fd) : FnOk P w K mg base (L2.CX P w) 1 f fd ["told", "due"] (spF K mg T F__law_same) := by
  have nd := (sc__law_same).nd
  exact fn_body F sc__law_same fun cdv A outer s H E gA gH gi gq hr => by
    exact (dss_one (ds_ret (de_if (dt_tru (dpk 1)) (de_is (dv 0) (dk de_bl)) (de_is (dv 0) (dk de_bl)))))
theorem ok__law_corners {f : Addr} {fd : FuncData} (F : L2.Fun K "_law_corners" "_law_corners" s__law_corners f fd) (z_sorted : mg "sorted" = none) (z_range : mg "range" = none) (z_int : mg "int" = none) : FnOk P w K mg base (L2.CX P w) 1 f fd ["board"] (spF K mg T F__law_corners) := by
  have nd := (sc__law_corners).nd
  exact fn_body F sc__law_corners fun cdv A outer s H E gA gH gi gq hr => by
    exact (dss_cons (ds_asg (dv 0) (dg_tup rfl (dgs_cons (dg_name 1 nd) (dgs_cons (dg_name 2 nd) (dgs_cons (dg_name 3 nd) dgs_nil)))))
    (dss_cons (ds_setF 4 nd (df_lst da_nil))
    (dss_cons (ds_for (passes_of rfl) rfl (di_range2 z_range (da_cons (de_ix (dv 2) (dk de_int)) (da_cons (de_add (de_ix (dv 2) (dk de_int)) (dk de_int)) da_nil))) (dg_name 5 nd) (dss_fgt [5, 6] (dss_one (ds_for (passes_of rfl) rfl (di_range2 z_range (da_cons (de_ix (dv 3) (dk de_int)) (da_cons (de_add (de_ix (dv 3) (dk de_int)) (dk de_int)) da_nil))) (dg_name 6 nd) (dss_fgt [6] (dss_one (ds_if (dt_w (dw_and (dt_cmp (op_eqR (units64 hr)) od_r (de_mod (de_t1 cb_int (dpk 6) (hm := z_int)) (dk de_int)) (dk de_int) (nomark _)) (dw_and1 (dt_cmp (op_eqR (units64 hr)) od_r (de_mod (de_t1 cb_int (dpk 1) (hm := z_int)) (dk (de_add (dv 5) (dpk 6)))) (dk de_int) (nomark _))))) (dss_one (ds_expr (de_append 4 (de_tup (da_cons (de_fdiv (dv 1) (dk (de_add (dv 5) (dpk 6)))) (da_cons (dv 5) (da_cons (dv 6) da_nil))))))) dss_nil)))))))
    (dss_one (ds_ret (de_f (df_b1 (cb_sort (units70 hr)) (dpk 4) (hm := z_sorted))))))))
theorem ok_law {f : Addr} {fd : FuncData} (F : L2.Fun K "law" "law" s_law f fd) (d_is_corner : Def P w K mg base T 2 "is_corner" F_is_corner) (d__law_same : Def P w K mg base T 1 "_law_same" F__law_same) (d__law_int : Def P w K mg base T 1 "_law_int" F__law_int) (d__law_draw : Def P w K mg base T 2 "_law_draw" F__law_draw) (d_tails_that_fit : Def P w K mg base T 4 "tails_that_fit" F_tails_that_fit) (d_told_corner : Def P w K mg base T 4 "told_corner" F_told_corner) (d_corners_of : Def P w K mg base T 3 "corners_of" F_corners_of) (d__law_corners : Def P w K mg base T 1 "_law_corners" F__law_corners) (d_is_dovetail_board : Def P w K mg base T 4 "is_dovetail_board" F_is_dovetail_board) (d__law_open : Def P w K mg base T 1 "_law_open" F__law_open) (z_isinstance : mg "isinstance" = none) (z_tuple : mg "tuple" = none) (z_list : mg "list" = none) (z_len : mg "len" = none) (z_max : mg "max" = none) (z_range : mg "range" = none) (z_int : mg "int" = none) (z_dict : mg "dict" = none) (z_sorted : mg "sorted" = none) (z_min : mg "min" = none) (sp : Sp) (hsp : ∀ vs H Q E, sp vs H Q E → spF K mg T F_law vs H Q E0) : FnOk P w K mg base CX0 5 f fd ["script"] sp := by
  have nd := (sc_law).nd
  exact fn_body0 F sc_law (fun cdv A outer s H E gA gH gi gq hr => by
    exact (dss_cons (ds_setF 1 nd (df_call d__law_open hr (by decide) takes0 (dc_dat (dv 0) dc_nil)))
    (dss_cons (ds_parDFc 2 3 rfl nd (de_add de_int (dk (de_call d__law_draw hr (by decide) takes0 (dc_slot 1 (dc_dat (de_ix (de_f (df_lst (da_cons de_int (da_cons de_int da_nil)))) (dk (de_call d__law_draw hr (by decide) takes0 (dc_slot 1 (dc_dat de_int dc_nil))))) dc_nil))))) (df_lst da_nil))
    (dss_cons (ds_for PassesOwn.never rfl (di_range1 z_range (da_cons de_int da_nil)) (dg_name 4 nd) (dss_fgt [4, 5] (dss_cons (ds_set 5 nd (de_add de_int (dk (de_call d__law_draw hr (by decide) takes0 (dc_slot 1 (dc_dat (de_ix (de_f (df_lst (da_cons de_int (da_cons de_int da_nil)))) (dk (de_call d__law_draw hr (by decide) takes0 (dc_slot 1 (dc_dat de_int dc_nil))))) dc_nil))))))
    (dss_one (ds_expr (de_append 3 (de_tup (da_cons (dv 5) (da_cons (de_b2 (cb_min2 rfl) de_int (dk (de_add (dv 5) (dk (de_call d__law_draw hr (by decide) takes0 (dc_slot 1 (dc_dat (de_ix (de_f (df_lst (da_cons de_int (da_cons de_int (da_cons de_int da_nil))))) (dk (de_call d__law_draw hr (by decide) takes0 (dc_slot 1 (dc_dat de_int dc_nil))))) dc_nil)))))) (hm := z_min)) da_nil)))))))))
    (dss_cons (ds_set 6 nd (de_tup (da_cons (dv 2) (da_cons (de_ixV 3 de_int) (da_cons (de_ixV 3 de_int) da_nil)))))
    (dss_cons (ds_asg (dv 6) (dg_tup rfl (dgs_cons (dg_name 2 nd) (dgs_cons (dg_name 7 nd) (dgs_cons (dg_name 8 nd) dgs_nil)))))
    (dss_cons (ds_set 9 nd (de_f (df_lst (da_cons de_non (da_cons (de_slice (dv 6) dp_none (dp_some de_int)) (da_cons (de_f (df_t1 cb_lst (dpk 6) (hm := z_list))) (da_cons (de_add (dv 6) (dk (de_tup (da_cons de_int da_nil)))) (da_cons (de_tup (da_cons de_int (da_cons (dv 7) (da_cons (dv 8) da_nil)))) (da_cons (de_tup (da_cons de_int (da_cons (dv 7) (da_cons (dv 8) da_nil)))) (da_cons (de_tup (da_cons de_bl (da_cons (dv 7) (da_cons (dv 8) da_nil)))) (da_cons (de_tup (da_cons de_non (da_cons (dv 7) (da_cons (dv 8) da_nil)))) (da_cons (de_tup (da_cons (dv 2) (da_cons (de_f (df_t1 cb_lst (dpk 7) (hm := z_list))) (da_cons (dv 8) da_nil)))) (da_cons (de_tup (da_cons (dv 2) (da_cons (dv 7) (da_cons (de_f (df_t1 cb_lst (dpk 8) (hm := z_list))) da_nil)))) (da_cons (de_tup (da_cons (dv 2) (da_cons (de_tup (da_cons de_int da_nil)) (da_cons (dv 8) da_nil)))) (da_cons (de_tup (da_cons (dv 2) (da_cons (dv 7) (da_cons (de_tup (da_cons de_int (da_cons de_int (da_cons de_int da_nil)))) da_nil)))) (da_cons (de_tup (da_cons (dv 2) (da_cons (de_tup (da_cons de_int (da_cons de_int da_nil))) (da_cons (dv 8) da_nil)))) (da_cons (de_tup (da_cons (dv 2) (da_cons (dv 7) (da_cons (de_tup (da_cons de_int (da_cons de_int da_nil))) da_nil)))) (da_cons (de_tup (da_cons (dv 2) (da_cons (de_tup (da_cons de_int (da_cons de_int da_nil))) (da_cons (dv 8) da_nil)))) (da_cons (de_tup (da_cons (dv 2) (da_cons (dv 7) (da_cons (de_tup (da_cons de_int (da_cons de_int da_nil))) da_nil)))) (da_cons (de_tup (da_cons (dv 2) (da_cons (de_tup (da_cons de_bl (da_cons de_int da_nil))) (da_cons (dv 8) da_nil)))) (da_cons (de_tup (da_cons (dv 2) (da_cons (dv 7) (da_cons (de_tup (da_cons de_int (da_cons de_non da_nil))) da_nil)))) (da_cons de_int da_nil))))))))))))))))))))))
    (dss_cons (ds_if (dt_w (dw_or (dt_cmp (op_nisR) od_r (de_call d_is_dovetail_board hr (by decide) takes0 (dc_dat (dv 6) dc_nil)) (dk de_bl) (nomark _)) (dw_or (dt_cmp (op_nisR) od_r (de_call d_is_dovetail_board hr (by decide) takes0 (dc_dat (de_tup (da_cons de_int (da_cons (de_tup (da_cons de_int (da_cons de_int da_nil))) (da_cons (de_tup (da_cons de_int (da_cons de_int da_nil))) da_nil)))) dc_nil)) (dk de_bl) (nomark _)) (dw_or1 (dt_cmp (op_neR (units64 hr)) od_r (de_f (df_lc [("value", 24)] rfl nd (blkOk_by (N := n_law) (sc := defScope s_law) (by decide +kernel)) (di_items (dv 9)) (fun _ _ _ _ _ _ _ => (dgv_name 24 nd)) (fun _ _ _ _ _ _ _ => (dts_one (dt_cmp (op_nisR) od_r (de_call d_is_dovetail_board hr (by decide) takes0 (dc_dat (dv 24) dc_nil)) (dk de_bl) (nomark _)))) (fun _ _ _ _ _ _ _ => (dv 24)))) (dk (de_f (df_lst da_nil))) (nomark _)))))) (dss_one (ds_ret de_bl)) dss_nil)
    (dss_cons (ds_set 10 nd (de_call d__law_corners hr (by decide) takes0 (dc_dat (dv 6) dc_nil)))
    (dss_cons (ds_for PassesOwn.never rfl (di_items (de_tup (da_cons de_bl (da_cons de_bl da_nil)))) (dg_name 11 nd) (dss_fgt [11, 12, 13, 14, 15] (dss_cons (ds_frz 12 (ds_setLc 12 [("row", 26)] rfl nd (blkOk_by (N := n_law) (sc := defScope s_law) (by decide +kernel)) (di_items (dv 10)) (fun _ _ _ _ _ _ _ => (dgv_name 26 nd)) (fun _ _ _ _ _ _ _ => (dts_one (dt_w (dw_or (dt_not (dt_tru (dpk 11))) (dw_or1 (dt_cmp (op_leR (units64 hr)) od_r (de_mul de_int (dk (de_ix (dv 26) (dk de_int)))) (dk (de_ix (dv 26) (dk de_int))) (nomark _))))))) (fun _ _ _ _ _ _ _ => (dv 26))))
    (dss_cons (ds_set 13 nd (de_call d_corners_of hr (by decide) takes0 (dc_dat (dv 6) (dc_dat (dv 11) dc_nil))))
    (dss_cons (ds_frz 14 (ds_setLc 14 [("many", 20), ("tail", 21), ("pin", 22)] rfl nd (blkOk_by (N := n_law) (sc := defScope s_law) (by decide +kernel)) (di_items (dv 12)) (fun _ _ _ _ _ _ _ => (dgv_tup rfl (dgvs_cons (dgv_name 20 nd) (dgvs_cons (dgv_name 21 nd) (dgvs_cons (dgv_name 22 nd) dgvs_nil))))) (fun _ _ _ _ _ _ _ => dts_nil) (fun _ _ _ _ _ _ _ => (de_tup (da_cons (dv 20) (da_cons (de_neg (dpk 21)) (da_cons (dv 22) da_nil)))))))
    (dss_cons (ds_set 15 nd (de_if (dt_cmp (op_neR (units64 hr)) od_r (dv 14) (dk (de_f (df_lst da_nil))) (nomark _)) (de_tup (da_cons (de_ix (de_b1 (cb_min rfl (units70 hr)) (dpk 14) (hm := z_min)) (dk de_int)) (da_cons (de_neg (dk (de_ix (de_b1 (cb_min rfl (units70 hr)) (dpk 14) (hm := z_min)) (dk de_int)))) (da_cons (de_ix (de_b1 (cb_min rfl (units70 hr)) (dpk 14) (hm := z_min)) (dk de_int)) da_nil)))) de_non))
    (dss_one (ds_if (dt_w (dw_or (dt_cmp (op_neR (units64 hr)) od_r (dv 13) (dk (de_t1 cb_tup (dpk 12) (hm := z_tuple))) (nomark _)) (dw_or (dt_cmp (op_neR (units64 hr)) od_r (de_f (df_lc [("row", 26)] rfl nd (blkOk_by (N := n_law) (sc := defScope s_law) (by decide +kernel)) (di_items (dv 13)) (fun _ _ _ _ _ _ _ => (dgv_name 26 nd)) (fun _ _ _ _ _ _ _ => (dts_one (dt_w (dw_or (dt_not (dt_tru (dk (de_call d__law_int hr (by decide) takes0 (dc_dat (de_ix (dv 26) (dk de_int)) dc_nil))))) (dw_or (dt_not (dt_tru (dk (de_call d__law_int hr (by decide) takes0 (dc_dat (de_ix (dv 26) (dk de_int)) dc_nil))))) (dw_or1 (dt_not (dt_tru (dk (de_call d__law_int hr (by decide) takes0 (dc_dat (de_ix (dv 26) (dk de_int)) dc_nil))))))))))) (fun _ _ _ _ _ _ _ => (dv 26)))) (dk (de_f (df_lst da_nil))) (nomark _)) (dw_or1 (dt_cmp (op_neR (units64 hr)) od_r (de_call d_told_corner hr (by decide) takes0 (dc_dat (dv 6) (dc_dat (dv 11) dc_nil))) (dpk 15) (nomark _)))))) (dss_one (ds_ret de_bl)) dss_nil))))))))
    (dss_cons (ds_set 16 nd (de_f (df_b1 (cb_sort (units70 hr)) (dk (de_f (df_lc [("many", 20)] rfl nd (blkOk_by (N := n_law) (sc := defScope s_law) (by decide +kernel)) (di_keysF (df_t1 (cb_dict rfl) (dk (de_f (df_lc [("row", 26)] rfl nd (blkOk_by (N := n_law) (sc := defScope s_law) (by decide +kernel)) (di_items (dv 10)) (fun _ _ _ _ _ _ _ => (dgv_name 26 nd)) (fun _ _ _ _ _ _ _ => dts_nil) (fun _ _ _ _ _ _ _ => (de_tup (da_cons (de_ix (dv 26) (dk de_int)) (da_cons de_int da_nil))))))) (hm := z_dict))) (fun _ _ _ _ _ _ _ => (dgv_name 20 nd)) (fun _ _ _ _ _ _ _ => dts_nil) (fun _ _ _ _ _ _ _ => (dv 20))))) (hm := z_sorted))))
    (dss_cons (ds_if (dt_cmp (op_neR (units64 hr)) od_r (de_call d_tails_that_fit hr (by decide) takes0 (dc_dat (dv 6) dc_nil)) (dk (de_t1 cb_tup (dpk 16) (hm := z_tuple))) (nomark _)) (dss_one (ds_ret de_bl)) dss_nil)
    (dss_cons (ds_set 17 nd (de_f (df_lc [("pin", 22)] rfl nd (blkOk_by (N := n_law) (sc := defScope s_law) (by decide +kernel)) (di_range2 z_range (da_cons (de_ix (dv 8) (dk de_int)) (da_cons (de_add (de_ix (dv 8) (dk de_int)) (dk de_int)) da_nil))) (fun _ _ _ _ _ _ _ => (dgv_name 22 nd)) (fun _ _ _ _ _ _ _ => (dts_one (dt_cmp (op_eqR (units64 hr)) od_r (de_mod (de_t1 cb_int (dpk 22) (hm := z_int)) (dk de_int)) (dk de_int) (nomark _)))) (fun _ _ _ _ _ _ _ => (dv 22)))))
    (dss_cons (ds_if (dt_w (dw_and (dt_cmp (op_ltR (units64 hr)) od_r (de_ix (dv 7) (dk de_int)) (dk (de_ix (dv 7) (dk de_int))) (nomark _)) (dw_and1 (dt_cmp (op_neR (units64 hr)) od_r (dv 17) (dk (de_f (df_lst da_nil))) (nomark _))))) (dss_cons (ds_frz 15 (ds_setLc 15 [("many", 20)] rfl nd (blkOk_by (N := n_law) (sc := defScope s_law) (by decide +kernel)) (di_range2 z_range (da_cons de_int (da_cons (de_add (dv 2) (dk de_int)) da_nil))) (fun _ _ _ _ _ _ _ => (dgv_name 20 nd)) (fun _ _ _ _ _ _ _ => (dts_one (dt_w (dw_and (dt_cmp (op_eqR (units64 hr)) od_r (de_mod (de_t1 cb_int (dpk 2) (hm := z_int)) (dpk 20)) (dk de_int) (nomark _)) (dw_and1 (dt_chain (op_leR (units64 hr)) (op_leR (units64 hr)) od_r od_r (de_add (de_ix (dv 7) (dk de_int)) (dk (de_ix (dv 17) (dk de_int)))) (de_fdiv (dv 2) (dpk 20)) (de_add (de_ix (dv 7) (dk de_int)) (dk (de_ix (dv 17) (dk (de_neg (dk de_int)))))))))))) (fun _ _ _ _ _ _ _ => (dv 20))))
    (dss_one (ds_if (dt_cmp (op_neR (units64 hr)) od_r (dv 15) (dpk 16) (nomark _)) (dss_one (ds_ret de_bl)) dss_nil))) dss_nil)
    (dss_cons (ds_if (dt_w (dw_and (dt_cmp (op_ltR (units64 hr)) od_r (dv 2) (dk de_int) (nomark _)) (dw_and1 (dt_cmp (op_ltR (units64 hr)) od_r (de_b1 (cb_max rfl (units70 hr)) (dk (de_add (dv 7) (dpk 8))) (hm := z_max)) (dk de_int) (nomark _))))) (dss_cons (ds_set 18 nd (de_tup (da_cons (de_mul de_int (dpk 2)) (da_cons (de_tup (da_cons (de_mul de_int (dk (de_ix (dv 7) (dk de_int)))) (da_cons (de_mul de_int (dk (de_ix (dv 7) (dk de_int)))) da_nil))) (da_cons (de_tup (da_cons (de_mul de_int (dk (de_ix (dv 8) (dk de_int)))) (da_cons (de_mul de_int (dk (de_ix (dv 8) (dk de_int)))) da_nil))) da_nil)))))
    (dss_one (ds_if (dt_cmp (op_neR (units64 hr)) od_r (de_f (df_lc [("row", 26)] rfl nd (blkOk_by (N := n_law) (sc := defScope s_law) (by decide +kernel)) (di_items (dv 10)) (fun _ _ _ _ _ _ _ => (dgv_name 26 nd)) (fun _ _ _ _ _ _ _ => (dts_one (dt_cmp (op_nisR) od_r (de_call d_is_corner hr (by decide) takes0 (dc_dat (dv 18) (dc_dat (de_tup (da_cons (de_ix (dv 26) (dk de_int)) (da_cons (de_mul de_int (dk (de_ix (dv 26) (dk de_int)))) (da_cons (de_mul de_int (dk (de_ix (dv 26) (dk de_int)))) da_nil)))) dc_nil))) (dk de_bl) (nomark _)))) (fun _ _ _ _ _ _ _ => (dv 26)))) (dk (de_f (df_lst da_nil))) (nomark _)) (dss_one (ds_ret de_bl)) dss_nil))) dss_nil)
    (dss_cons (ds_set 19 nd (de_if (dt_cmp (op_neR (units64 hr)) od_r (dv 10) (dk (de_f (df_lst da_nil))) (nomark _)) (de_ix (dv 10) (dk (de_call d__law_draw hr (by decide) takes0 (dc_slot 1 (dc_dat (de_b1 cb_len (dpk 10) (hm := z_len)) dc_nil))))) (de_tup (da_cons de_int (da_cons (de_ix (dv 7) (dk de_int)) (da_cons (de_ix (dv 8) (dk de_int)) da_nil))))))
    (dss_cons (ds_asg (dv 19) (dg_tup rfl (dgs_cons (dg_name 20 nd) (dgs_cons (dg_name 21 nd) (dgs_cons (dg_name 22 nd) dgs_nil)))))
    (dss_cons (ds_set 23 nd (de_f (df_lst (da_cons (dv 19) (da_cons (de_tup (da_cons (de_add (dv 20) (dk de_int)) (da_cons (dv 21) (da_cons (dv 22) da_nil)))) (da_cons (de_tup (da_cons (dv 20) (da_cons (de_add (dv 21) (dk de_int)) (da_cons (de_sub (dv 22) (dk de_int)) da_nil)))) (da_cons (de_tup (da_cons (dv 20) (da_cons (de_sub (dv 21) (dk de_int)) (da_cons (de_add (dv 22) (dk de_int)) da_nil)))) (da_cons (de_tup (da_cons (dv 20) (da_cons (de_add (dv 21) (dk de_int)) (da_cons (de_sub (dv 22) (dk de_int)) da_nil)))) (da_cons (de_tup (da_cons (dv 20) (da_cons (dv 21) (da_cons (de_add (dv 22) (dk de_int)) da_nil)))) (da_cons (de_f (df_t1 cb_lst (dpk 19) (hm := z_list))) (da_cons (de_slice (dv 19) dp_none (dp_some de_int)) (da_cons (de_add (dv 19) (dk (de_tup (da_cons de_int da_nil)))) (da_cons (de_tup (da_cons de_int (da_cons (dv 21) (da_cons (dv 22) da_nil)))) (da_cons (de_tup (da_cons (de_neg (dpk 20)) (da_cons (de_neg (dpk 21)) (da_cons (de_neg (dpk 22)) da_nil)))) (da_cons (de_tup (da_cons de_non (da_cons (dv 21) (da_cons (dv 22) da_nil)))) (da_cons (de_tup (da_cons (dv 20) (da_cons de_non (da_cons (dv 22) da_nil)))) (da_cons (de_tup (da_cons (dv 20) (da_cons (dv 21) (da_cons de_non da_nil)))) (da_cons (de_tup (da_cons de_bl (da_cons (dv 21) (da_cons (dv 22) da_nil)))) (da_cons (de_tup da_nil) (da_cons de_non (da_cons de_int da_nil)))))))))))))))))))))
    (dss_cons (ds_for PassesOwn.never rfl (di_items (dv 23)) (dg_name 24 nd) (dss_fgt [24, 25] (dss_cons (ds_set 25 nd (de_and (de_isa isa_tup (dpk 24) z_isinstance z_tuple) (de_and (de_eq hr (de_f (df_lc [("one", 27)] rfl nd (blkOk_by (N := n_law) (sc := defScope s_law) (by decide +kernel)) (di_items (dv 24)) (fun _ _ _ _ _ _ _ => (dgv_name 27 nd)) (fun _ _ _ _ _ _ _ => (dts_one (dt_not (dt_tru (dk (de_call d__law_int hr (by decide) takes0 (dc_dat (dv 27) dc_nil))))))) (fun _ _ _ _ _ _ _ => (dv 27)))) (dk (de_f (df_lst da_nil)))) (de_one (de_in hr (dv 24) (dpk 10))))))
    (dss_one (ds_if (dt_not (dt_tru (dk (de_call d__law_same hr (by decide) takes0 (dc_dat (de_call d_is_corner hr (by decide) takes0 (dc_dat (dv 6) (dc_dat (dv 24) dc_nil))) (dc_dat (dv 25) dc_nil)))))) (dss_one (ds_ret de_bl)) dss_nil)))))
    (dss_one (ds_ret de_bl))))))))))))))))))))) sp hsp
set_option maxHeartbeats 0 in
theorem all_mk {l : PySem.W.OpenLaw} {w : World} {K : PySem.W.Frag} {h : Heap} {mg : Str → Option Value} {fa : Addr} {q : Program} (hP : ∀ ns : List Int, ns.length ≤ 63 → (∀ z ∈ ns, Builtin.Int.intBits z ≤ 1048576) → F_law [.dat (.list (ns.map PyData.int))] = some (.ret (.bool true) [])) (X : K.In h) (G : h.Ns mainGlobals mg) (hfa : mg "law" = some (.ref fa)) (all : AllTab q K mg h)
    {f0 : Addr} {od0 an0 : Option Addr} {sl0 : Array (Option Value)} {oc0 kV0 dc0 pm0 ct0 : Value} {cd0 : Value} {f1 : Addr} {od1 an1 : Option Addr} {sl1 : Array (Option Value)} {oc1 kV1 dc1 pm1 ct1 : Value} {f2 : Addr} {od2 an2 : Option Addr} {sl2 : Array (Option Value)} {oc2 kV2 dc2 pm2 ct2 : Value} {cd2 : Value} {f3 : Addr} {od3 an3 : Option Addr} {sl3 : Array (Option Value)} {oc3 kV3 dc3 pm3 ct3 : Value} {cd3 : Value} {f4 : Addr} {od4 an4 : Option Addr} {sl4 : Array (Option Value)} {oc4 kV4 dc4 pm4 ct4 : Value} {cd4 : Value} {f5 : Addr} {od5 an5 : Option Addr} {sl5 : Array (Option Value)} {oc5 kV5 dc5 pm5 ct5 : Value} {cd5 : Value} {f6 : Addr} {od6 an6 : Option Addr} {sl6 : Array (Option Value)} {oc6 kV6 dc6 pm6 ct6 : Value} {cd6 : Value} {f7 : Addr} {od7 an7 : Option Addr} {sl7 : Array (Option Value)} {oc7 kV7 dc7 pm7 ct7 : Value} {cd7 : Value} {f8 : Addr} {od8 an8 : Option Addr} {sl8 : Array (Option Value)} {oc8 kV8 dc8 pm8 ct8 : Value} {cd8 : Value} {f9 : Addr} {od9 an9 : Option Addr} {sl9 : Array (Option Value)} {oc9 kV9 dc9 pm9 ct9 : Value} {cd9 : Value} {f10 : Addr} {od10 an10 : Option Addr} {sl10 : Array (Option Value)} {oc10 kV10 dc10 pm10 ct10 : Value} {cd10 : Value} {f11 : Addr} {od11 an11 : Option Addr} {sl11 : Array (Option Value)} {oc11 kV11 dc11 pm11 ct11 : Value} {cd11 : Value} {f12 : Addr} {od12 an12 : Option Addr} {sl12 : Array (Option Value)} {oc12 kV12 dc12 pm12 ct12 : Value} {cd12 : Value} {f13 : Addr} {od13 an13 : Option Addr} {sl13 : Array (Option Value)} {oc13 kV13 dc13 pm13 ct13 : Value} {cd13 : Value} {g1 q1 : Addr} {gd1 : Option Addr} {gv1 : Array Value} {gs1 : Array (Option Value)} {tk_MOST_PART : Tok} {tk_MOST_WIDE : Tok} {tk_LEAST_WIDE : Tok}
    (a0 : PySem.W.nsIn K mainGlobals "is_number" = some (some (.ref f0))) (l0 : K.lookup f0 = some ⟨oc0, od0, .func (PySem.W.fnOf "is_number" "is_number" (defArgs s_is_number) (defBody s_is_number) (defScope s_is_number) .none kV0 dc0 pm0 an0 cd0 ct0), sl0⟩) (c0 : PySem.W.codeIn K cd0 "is_number" = true) (k0 : PySem.W.keepIn K (.ref f0) = true)
    (a1 : PySem.W.nsIn K mainGlobals "are_bounds" = some (some (.ref f1))) (l1 : K.lookup f1 = some ⟨oc1, od1, .func (PySem.W.fnOf "are_bounds" "are_bounds" (defArgs s_are_bounds) (defBody s_are_bounds) (defScope s_are_bounds) .none kV1 dc1 pm1 an1 (.ref g1) ct1), sl1⟩) (c1 : PySem.W.codeIn K (.ref g1) "are_bounds" = true) (k1 : PySem.W.keepIn K (.ref f1) = true)
    (a2 : PySem.W.nsIn K mainGlobals "is_dovetail_board" = some (some (.ref f2))) (l2 : K.lookup f2 = some ⟨oc2, od2, .func (PySem.W.fnOf "is_dovetail_board" "is_dovetail_board" (defArgs s_is_dovetail_board) (defBody s_is_dovetail_board) (defScope s_is_dovetail_board) .none kV2 dc2 pm2 an2 cd2 ct2), sl2⟩) (c2 : PySem.W.codeIn K cd2 "is_dovetail_board" = true) (k2 : PySem.W.keepIn K (.ref f2) = true)
    (a3 : PySem.W.nsIn K mainGlobals "is_corner" = some (some (.ref f3))) (l3 : K.lookup f3 = some ⟨oc3, od3, .func (PySem.W.fnOf "is_corner" "is_corner" (defArgs s_is_corner) (defBody s_is_corner) (defScope s_is_corner) .none kV3 dc3 pm3 an3 cd3 ct3), sl3⟩) (c3 : PySem.W.codeIn K cd3 "is_corner" = true) (k3 : PySem.W.keepIn K (.ref f3) = true)
    (a4 : PySem.W.nsIn K mainGlobals "corners_of" = some (some (.ref f4))) (l4 : K.lookup f4 = some ⟨oc4, od4, .func (PySem.W.fnOf "corners_of" "corners_of" (defArgs s_corners_of) (defBody s_corners_of) (defScope s_corners_of) .none kV4 dc4 pm4 an4 cd4 ct4), sl4⟩) (c4 : PySem.W.codeIn K cd4 "corners_of" = true) (k4 : PySem.W.keepIn K (.ref f4) = true)
    (a5 : PySem.W.nsIn K mainGlobals "told_corner" = some (some (.ref f5))) (l5 : K.lookup f5 = some ⟨oc5, od5, .func (PySem.W.fnOf "told_corner" "told_corner" (defArgs s_told_corner) (defBody s_told_corner) (defScope s_told_corner) .none kV5 dc5 pm5 an5 cd5 ct5), sl5⟩) (c5 : PySem.W.codeIn K cd5 "told_corner" = true) (k5 : PySem.W.keepIn K (.ref f5) = true)
    (a6 : PySem.W.nsIn K mainGlobals "tails_that_fit" = some (some (.ref f6))) (l6 : K.lookup f6 = some ⟨oc6, od6, .func (PySem.W.fnOf "tails_that_fit" "tails_that_fit" (defArgs s_tails_that_fit) (defBody s_tails_that_fit) (defScope s_tails_that_fit) .none kV6 dc6 pm6 an6 cd6 ct6), sl6⟩) (c6 : PySem.W.codeIn K cd6 "tails_that_fit" = true) (k6 : PySem.W.keepIn K (.ref f6) = true)
    (a7 : PySem.W.nsIn K mainGlobals "_law_open" = some (some (.ref f7))) (l7 : K.lookup f7 = some ⟨oc7, od7, .func (PySem.W.fnOf "_law_open" "_law_open" (defArgs s__law_open) (defBody s__law_open) (defScope s__law_open) .none kV7 dc7 pm7 an7 cd7 ct7), sl7⟩) (c7 : PySem.W.codeIn K cd7 "_law_open" = true) (k7 : PySem.W.keepIn K (.ref f7) = true)
    (a8 : PySem.W.nsIn K mainGlobals "_law_mixed" = some (some (.ref f8))) (l8 : K.lookup f8 = some ⟨oc8, od8, .func (PySem.W.fnOf "_law_mixed" "_law_mixed" (defArgs s__law_mixed) (defBody s__law_mixed) (defScope s__law_mixed) .none kV8 dc8 pm8 an8 cd8 ct8), sl8⟩) (c8 : PySem.W.codeIn K cd8 "_law_mixed" = true) (k8 : PySem.W.keepIn K (.ref f8) = true)
    (a9 : PySem.W.nsIn K mainGlobals "_law_draw" = some (some (.ref f9))) (l9 : K.lookup f9 = some ⟨oc9, od9, .func (PySem.W.fnOf "_law_draw" "_law_draw" (defArgs s__law_draw) (defBody s__law_draw) (defScope s__law_draw) .none kV9 dc9 pm9 an9 cd9 ct9), sl9⟩) (c9 : PySem.W.codeIn K cd9 "_law_draw" = true) (k9 : PySem.W.keepIn K (.ref f9) = true)
    (a10 : PySem.W.nsIn K mainGlobals "_law_int" = some (some (.ref f10))) (l10 : K.lookup f10 = some ⟨oc10, od10, .func (PySem.W.fnOf "_law_int" "_law_int" (defArgs s__law_int) (defBody s__law_int) (defScope s__law_int) .none kV10 dc10 pm10 an10 cd10 ct10), sl10⟩) (c10 : PySem.W.codeIn K cd10 "_law_int" = true) (k10 : PySem.W.keepIn K (.ref f10) = true)
    (a11 : PySem.W.nsIn K mainGlobals "_law_same" = some (some (.ref f11))) (l11 : K.lookup f11 = some ⟨oc11, od11, .func (PySem.W.fnOf "_law_same" "_law_same" (defArgs s__law_same) (defBody s__law_same) (defScope s__law_same) .none kV11 dc11 pm11 an11 cd11 ct11), sl11⟩) (c11 : PySem.W.codeIn K cd11 "_law_same" = true) (k11 : PySem.W.keepIn K (.ref f11) = true)
    (a12 : PySem.W.nsIn K mainGlobals "_law_corners" = some (some (.ref f12))) (l12 : K.lookup f12 = some ⟨oc12, od12, .func (PySem.W.fnOf "_law_corners" "_law_corners" (defArgs s__law_corners) (defBody s__law_corners) (defScope s__law_corners) .none kV12 dc12 pm12 an12 cd12 ct12), sl12⟩) (c12 : PySem.W.codeIn K cd12 "_law_corners" = true) (k12 : PySem.W.keepIn K (.ref f12) = true)
    (a13 : PySem.W.nsIn K mainGlobals "law" = some (some (.ref f13))) (l13 : K.lookup f13 = some ⟨oc13, od13, .func (PySem.W.fnOf "law" "law" (defArgs s_law) (defBody s_law) (defScope s_law) .none kV13 dc13 pm13 an13 cd13 ct13), sl13⟩) (c13 : PySem.W.codeIn K cd13 "law" = true) (k13 : PySem.W.keepIn K (.ref f13) = true)
    (r1 : K.lookup g1 = some ⟨.type "code", gd1, .fields gv1, gs1⟩) (t1 : CodeW gv1 g1 q1) (u1 : K.lookup q1 = none) (v1 : ((recsOf q).any fun e => e.name == "are_bounds") = true)
    (z_isinstance : PySem.W.nsIn K mainGlobals "isinstance" = some none)
    (z_bool : PySem.W.nsIn K mainGlobals "bool" = some none)
    (z_int : PySem.W.nsIn K mainGlobals "int" = some none)
    (z_all : PySem.W.nsIn K mainGlobals "all" = some none)
    (z_len : PySem.W.nsIn K mainGlobals "len" = some none)
    (z_tuple : PySem.W.nsIn K mainGlobals "tuple" = some none)
    (z_sorted : PySem.W.nsIn K mainGlobals "sorted" = some none)
    (z_range : PySem.W.nsIn K mainGlobals "range" = some none)
    (z_min : PySem.W.nsIn K mainGlobals "min" = some none)
    (z_abs : PySem.W.nsIn K mainGlobals "abs" = some none)
    (z_list : PySem.W.nsIn K mainGlobals "list" = some none)
    (z_max : PySem.W.nsIn K mainGlobals "max" = some none)
    (z_dict : PySem.W.nsIn K mainGlobals "dict" = some none)
    (h_MOST_PART : PySem.W.nsIn K mainGlobals "MOST_PART" = some (some (.int 200 tk_MOST_PART)))
    (h_MOST_WIDE : PySem.W.nsIn K mainGlobals "MOST_WIDE" = some (some (.int 1000 tk_MOST_WIDE)))
    (h_LEAST_WIDE : PySem.W.nsIn K mainGlobals "LEAST_WIDE" = some (some (.int 20 tk_LEAST_WIDE))) :
    LamX.LawAtS l w K CX0 5 63 "script" mg fa h := by
  have e := hfa.symm.trans (PySem.W.mg_of X G a13)
  cases e
  have tt1 : h.get? q1 = some { cls := .none, data := .fields #[] } := all "are_bounds" f1 v1 (PySem.W.mg_of X G a1) g1 q1 _ _ _ _ _ _ l1 rfl rfl r1 t1.e11
  have cc1 : PySem.W.CodeHd h g1 q1 := code_of X r1 t1
  refine ⟨PySem.W.fnOf "law" "law" (defArgs s_law) (defBody s_law) (defScope s_law) .none kV13 dc13 pm13 an13 cd13 ct13, [(g1, q1)], spL K (fun a => a ∈ [q1]) 63, ?_, ?_, ?_, fun s v => .of_eq rfl, ?_, ?_⟩
  · intro p hp; simp only [List.mem_cons, List.not_mem_nil, or_false] at hp; subst hp; exact tt1
  · intro p hp; simp only [List.mem_cons, List.not_mem_nil, or_false] at hp; subst hp; exact u1
  · intro p hp; simp only [List.mem_cons, List.not_mem_nil, or_false] at hp; subst hp; exact cc1
  · intro H a ns hl hb ht hS
    refine ⟨a, ns, rfl, hS, hl, hb, fun P hP => ?_, fun _ => rfl⟩
    obtain ⟨p, hp, e⟩ : ∃ p ∈ ([(g1, q1)] : List (Addr × Addr)), p.2 = P := by simpa [eq_comm] using hP
    rw [← e]; exact ht p hp
  · intro base _ _ tb
    have F0 := fun_mk (st := s_is_number) l0 c0 k0
    have b0 := F0.binds (ps := ["value", "least", "most"]) fun _ _ _ _ _ _ us hl => match us, hl with | [_, _, _], _ => rfl
    have F1 := fun_mk (st := s_are_bounds) l1 c1 k1
    have b1 := F1.binds (ps := ["value"]) fun _ _ _ _ _ _ us hl => match us, hl with | [_], _ => rfl
    have F2 := fun_mk (st := s_is_dovetail_board) l2 c2 k2
    have b2 := F2.binds (ps := ["value"]) fun _ _ _ _ _ _ us hl => match us, hl with | [_], _ => rfl
    have F3 := fun_mk (st := s_is_corner) l3 c3 k3
    have b3 := F3.binds (ps := ["board", "value"]) fun _ _ _ _ _ _ us hl => match us, hl with | [_, _], _ => rfl
    have F4 := fun_mk (st := s_corners_of) l4 c4 k4
    have b4 := F4.binds (ps := ["board", "fine"]) fun _ _ _ _ _ _ us hl => match us, hl with | [_, _], _ => rfl
    have F5 := fun_mk (st := s_told_corner) l5 c5 k5
    have b5 := F5.binds (ps := ["board", "fine"]) fun _ _ _ _ _ _ us hl => match us, hl with | [_, _], _ => rfl
    have F6 := fun_mk (st := s_tails_that_fit) l6 c6 k6
    have b6 := F6.binds (ps := ["board"]) fun _ _ _ _ _ _ us hl => match us, hl with | [_], _ => rfl
    have F7 := fun_mk (st := s__law_open) l7 c7 k7
    have b7 := F7.binds (ps := ["script"]) fun _ _ _ _ _ _ us hl => match us, hl with | [_], _ => rfl
    have F8 := fun_mk (st := s__law_mixed) l8 c8 k8
    have b8 := F8.binds (ps := ["cell", "turn"]) fun _ _ _ _ _ _ us hl => match us, hl with | [_, _], _ => rfl
    have F9 := fun_mk (st := s__law_draw) l9 c9 k9
    have b9 := F9.binds (ps := ["draws", "size"]) fun _ _ _ _ _ _ us hl => match us, hl with | [_, _], _ => rfl
    have F10 := fun_mk (st := s__law_int) l10 c10 k10
    have b10 := F10.binds (ps := ["value"]) fun _ _ _ _ _ _ us hl => match us, hl with | [_], _ => rfl
    have F11 := fun_mk (st := s__law_same) l11 c11 k11
    have b11 := F11.binds (ps := ["told", "due"]) fun _ _ _ _ _ _ us hl => match us, hl with | [_, _], _ => rfl
    have F12 := fun_mk (st := s__law_corners) l12 c12 k12
    have b12 := F12.binds (ps := ["board"]) fun _ _ _ _ _ _ us hl => match us, hl with | [_], _ => rfl
    have F13 := fun_mk (st := s_law) l13 c13 k13
    have y_isinstance := PySem.W.mg_none_of X G z_isinstance
    have y_bool := PySem.W.mg_none_of X G z_bool
    have y_int := PySem.W.mg_none_of X G z_int
    have y_all := PySem.W.mg_none_of X G z_all
    have y_len := PySem.W.mg_none_of X G z_len
    have y_tuple := PySem.W.mg_none_of X G z_tuple
    have y_sorted := PySem.W.mg_none_of X G z_sorted
    have y_range := PySem.W.mg_none_of X G z_range
    have y_min := PySem.W.mg_none_of X G z_min
    have y_abs := PySem.W.mg_none_of X G z_abs
    have y_list := PySem.W.mg_none_of X G z_list
    have y_max := PySem.W.mg_none_of X G z_max
    have y_dict := PySem.W.mg_none_of X G z_dict
    have c_MOST_PART : Con K mg "MOST_PART" k_MOST_PART := ⟨.int 200, _, PySem.W.mg_of X G h_MOST_PART, ⟨_, rfl⟩, fun _ _ => .int _⟩
    have c_MOST_WIDE : Con K mg "MOST_WIDE" k_MOST_WIDE := ⟨.int 1000, _, PySem.W.mg_of X G h_MOST_WIDE, ⟨_, rfl⟩, fun _ _ => .int _⟩
    have c_LEAST_WIDE : Con K mg "LEAST_WIDE" k_LEAST_WIDE := ⟨.int 20, _, PySem.W.mg_of X G h_LEAST_WIDE, ⟨_, rfl⟩, fun _ _ => .int _⟩
    have tbx1 : GxR.TabB base mg g1 q1 := let z := tb (g1, q1) (by simp); ⟨z.code, z.bm, z.gP⟩
    have d_is_number : Def l.prog w K mg base (fun a => a ∈ [q1]) 1 "is_number" F_is_number := ⟨f0, _, _, ok_is_number F0 y_isinstance y_bool y_int, PySem.W.mg_of X G a0, k0, b0⟩
    have d_is_corner : Def l.prog w K mg base (fun a => a ∈ [q1]) 2 "is_corner" F_is_corner := ⟨f3, _, _, ok_is_corner F3 d_is_number y_int y_len y_isinstance y_tuple, PySem.W.mg_of X G a3, k3, b3⟩
    have d__law_same : Def l.prog w K mg base (fun a => a ∈ [q1]) 1 "_law_same" F__law_same := ⟨f11, _, _, ok__law_same F11, PySem.W.mg_of X G a11, k11, b11⟩
    have d__law_int : Def l.prog w K mg base (fun a => a ∈ [q1]) 1 "_law_int" F__law_int := ⟨f10, _, _, ok__law_int F10 y_isinstance y_bool y_int, PySem.W.mg_of X G a10, k10, b10⟩
    have d__law_mixed : Def l.prog w K mg base (fun a => a ∈ [q1]) 1 "_law_mixed" F__law_mixed := ⟨f8, _, _, ok__law_mixed F8, PySem.W.mg_of X G a8, k8, b8⟩
    have d__law_draw : Def l.prog w K mg base (fun a => a ∈ [q1]) 2 "_law_draw" F__law_draw := ⟨f9, _, _, ok__law_draw F9 d__law_mixed y_len, PySem.W.mg_of X G a9, k9, b9⟩
    have d_corners_of : Def l.prog w K mg base (fun a => a ∈ [q1]) 3 "corners_of" F_corners_of := ⟨f4, _, _, ok_corners_of F4 d_is_corner y_sorted y_tuple y_range, PySem.W.mg_of X G a4, k4, b4⟩
    have d_tails_that_fit : Def l.prog w K mg base (fun a => a ∈ [q1]) 4 "tails_that_fit" F_tails_that_fit := ⟨f6, _, _, ok_tails_that_fit F6 d_corners_of y_sorted y_tuple, PySem.W.mg_of X G a6, k6, b6⟩
    have d_told_corner : Def l.prog w K mg base (fun a => a ∈ [q1]) 4 "told_corner" F_told_corner := ⟨f5, _, _, ok_told_corner F5 d_corners_of y_min, PySem.W.mg_of X G a5, k5, b5⟩
    have d__law_corners : Def l.prog w K mg base (fun a => a ∈ [q1]) 1 "_law_corners" F__law_corners := ⟨f12, _, _, ok__law_corners F12 y_sorted y_range y_int, PySem.W.mg_of X G a12, k12, b12⟩
    have d_are_bounds : Def l.prog w K mg base (fun a => a ∈ [q1]) 3 "are_bounds" F_are_bounds := ⟨f1, _, _, ok_are_bounds F1 d_is_number y_all y_len y_isinstance y_tuple c_MOST_PART rfl tbx1 (by simp), PySem.W.mg_of X G a1, k1, b1⟩
    have d_is_dovetail_board : Def l.prog w K mg base (fun a => a ∈ [q1]) 4 "is_dovetail_board" F_is_dovetail_board := ⟨f2, _, _, ok_is_dovetail_board F2 d_are_bounds d_is_number y_len y_isinstance y_tuple c_MOST_WIDE c_LEAST_WIDE, PySem.W.mg_of X G a2, k2, b2⟩
    have d__law_open : Def l.prog w K mg base (fun a => a ∈ [q1]) 1 "_law_open" F__law_open := ⟨f7, _, _, ok__law_open F7 y_int y_abs, PySem.W.mg_of X G a7, k7, b7⟩
    exact ok_law F13 d_is_corner d__law_same d__law_int d__law_draw d_tails_that_fit d_told_corner d_corners_of d__law_corners d_is_dovetail_board d__law_open y_isinstance y_tuple y_list y_len y_max y_range y_int y_dict y_sorted y_min _ (spL_to hP)
end
end K95
namespace K95
open PySem PySem.Spec PyProof.Rows L2 DL

/-! ### is_number, are_bounds, is_dovetail_board -/
def isNum (lo hi : Int) : D → Bool
  | .int i => decide (lo ≤ i) && decide (i ≤ hi)
  | _ => false
theorem num_eq (d : D) (lo hi : Int) (h : okD 60 d = true) : F_is_number [.dat d, .dat (.int lo), .dat (.int hi)] = some (.ret (.bool (isNum lo hi d)) []) := by
  cases d <;> simp [F_is_number, m_is_number, runF, rho0, avSl, isT_ok h, PyData.isInt, PyData.isBool, outsOf, isNum]
  rename_i i
  by_cases h1 : lo ≤ i <;> simp [h1, outsOf]
theorem isNum_int {lo hi : Int} {d : D} (h : isNum lo hi d = true) : ∃ i, d = .int i ∧ lo ≤ i ∧ i ≤ hi := by
  cases d <;> simp [isNum] at h
  exact ⟨_, rfl, h⟩
def isBnd : D → Bool
  | .tuple [x, y] => isNum 1 200 x && isNum 1 200 y && (match x, y with
    | .int a, .int b => decide (a ≤ b)
    | _, _ => false)
  | _ => false
theorem bnd_eq (d : D) (h : okD 60 d = true) : F_are_bounds [.dat d] = some (.ret (.bool (isBnd d)) []) := by
  cases d <;> simp [F_are_bounds, m_are_bounds, runF, rho0, avSl, isT_ok h, PyData.isTuple, outsOf, isBnd, truD]
  rename_i xs
  match xs, h with
  | [], h => simp [lenD, isBnd, boolD, outsOf]
  | [x], h => simp [lenD, isBnd, boolD, outsOf]
  | x :: y :: z :: r, h =>
    have e : ¬ (((x :: y :: z :: r).length : Int) = 2) := by simp only [List.length_cons]; omega
    simp [lenD, isBnd, boolD, outsOf, e]
    have e2 : ¬ ((r.length : Int) + 1 + 1 + 1 = 2) := by omega
    simp [e2, outsOf]
  | [x, y], h =>
    have hx := okD_tup h x (by simp)
    have hy := okD_tup h y (by simp)
    have g := ge_run (stop := false) (g := tgN 1) (mt := M.yes) (me := callM F_is_number (M.cdat (varM 1) (M.cdat (M.ret (.int 1)) (M.cdat (M.ret k_MOST_PART) (M.ret []))))) (vs := [1]) (ms := M.items (varM 0)) (ρ := [some (Sl.dat (.tuple [x, y])), none]) (ρ1 := [some (Sl.dat (.tuple [x, y])), none]) (ds := [x, y]) (b := fun _ => true) (t := isNum 1 200)
      (by simp [itemsD]) (by simp [noInn, isInn]) (by simp [wipeR]) fun d hd => turn1 (ρ1 := [some (Sl.dat (.tuple [x, y])), some (.dat d)]) rfl rfl rfl (fun _ => by simp [slotsOf, avs, k_MOST_PART, num_eq d 1 200 (okD_tup h d hd), putOuts]) rfl rfl
    simp [lenD, boolD, g]
    cases h1 : isNum 1 200 x <;> cases h2 : isNum 1 200 y <;> simp [outsOf]
    obtain ⟨a, rfl, _⟩ := isNum_int h1
    obtain ⟨c, rfl, _⟩ := isNum_int h2
    simp [outsOf]
def isBoard : D → Bool
  | .tuple [x, y, z] => isNum 20 1000 x && (isBnd y && isBnd z)
  | _ => false
theorem board_eq (d : D) (h : okD 60 d = true) : F_is_dovetail_board [.dat d] = some (.ret (.bool (isBoard d)) []) := by
  cases d <;> simp [F_is_dovetail_board, m_is_dovetail_board, runF, rho0, avSl, isT_ok h, PyData.isTuple, outsOf, isBoard, truD]
  rename_i xs
  match xs, h with
  | [], h => simp [isBoard, outsOf]
  | [x], h => simp [isBoard, outsOf]
  | [x, y], h => simp [isBoard, outsOf]
  | x :: y :: z :: u :: r, h =>
    have e2 : ¬ ((r.length : Int) + 1 + 1 + 1 + 1 = 3) := by omega
    simp [e2, outsOf, isBoard]
  | [x, y, z], h =>
    have hx := okD_tup h x (by simp)
    have hy := okD_tup h y (by simp)
    have hz := okD_tup h z (by simp)
    simp [slotsOf, avs, putOuts, k_LEAST_WIDE, k_MOST_WIDE, num_eq x 20 1000 hx, bnd_eq y hy, bnd_eq z hz]
    cases h1 : isNum 20 1000 x <;> cases h2 : isBnd y <;> cases h3 : isBnd z <;> simp [isBoard, h1, h2, h3, bnd_eq y hy, bnd_eq z hz]
/-! ### is_corner -/
def brd (w a b c d : Int) : D := .tuple [.int w, .tuple [.int a, .int b], .tuple [.int c, .int d]]
def isCor (w a b c d : Int) : D → Bool
  | .tuple [x, y, z] => isNum 1 w x && (isNum a b y && isNum c d z && (match x, y, z with
    | .int m, .int t, .int p => decide (p % 2 = 0) && decide (m * (t + p) = w)
    | _, _, _ => false))
  | _ => false
theorem cor_eq {w a b c d : Int} (hw : w ≤ 10000) (ha : 0 ≤ a) (hb : b ≤ 10000) (hc : 0 ≤ c) (hd : d ≤ 10000) (v : D) (h : okD 60 v = true) : F_is_corner [.dat (brd w a b c d), .dat v] = some (.ret (.bool (isCor w a b c d v)) []) := by
  cases v <;> simp [F_is_corner, m_is_corner, runF, rho0, avSl, isT_ok h, PyData.isTuple, isCor, truD, brd, isInn]
  rename_i xs
  match xs, h with
  | [], h => simp [isCor]
  | [x], h => simp [isCor]
  | [x, y], h => simp [isCor]
  | x :: y :: z :: u :: r, h =>
    have e2 : ¬ ((r.length : Int) + 1 + 1 + 1 + 1 = 3) := by omega
    simp [e2, isCor]
  | [x, y, z], h =>
    have hx := okD_tup h x (by simp)
    have hy := okD_tup h y (by simp)
    have hz := okD_tup h z (by simp)
    simp [num_eq x 1 w hx]
    cases h1 : isNum 1 w x
    · simp [isCor, h1]
    · simp [isInn, num_eq y a b hy, num_eq z c d hz]
      cases h2 : isNum a b y <;> cases h3 : isNum c d z <;> simp [isCor, h1, h2, h3, num_eq y a b hy, num_eq z c d hz]
      obtain ⟨m, rfl, m1, m2⟩ := isNum_int h1
      obtain ⟨t, rfl, t1, t2⟩ := isNum_int h2
      obtain ⟨p, rfl, p1, p2⟩ := isNum_int h3
      have e : mulID (.int m) (.int (t + p)) = some (.int (m * (t + p))) := mul_ok (a := 20) (b := 20) (by omega) (by omega) (by decide) (by decide) (by decide)
      by_cases hp : p % 2 = 0 <;> simp [hp, e]
/-! ### the law's corners -/
def cand (w a b c d : Int) : List (List Int) := (rngI a (b + 1)).flatMap fun t => (rngI c (d + 1)).flatMap fun p => if p % 2 = 0 ∧ w % (t + p) = 0 then [[w / (t + p), t, p]] else []
def rows (w a b c d : Int) : List (List Int) := (cand w a b c d).mergeSort leR
theorem cand_len {w a b c d : Int} : (cand w a b c d).length ≤ (b + 1 - a).toNat * ((d + 1 - c).toNat * 1) := by
  unfold cand
  have := len_flatMap (l := rngI a (b + 1)) (k := (d + 1 - c).toNat * 1) (f := fun t => (rngI c (d + 1)).flatMap fun p => if p % 2 = 0 ∧ w % (t + p) = 0 then [[w / (t + p), t, p]] else []) fun t _ => by
    have := len_flatMap (l := rngI c (d + 1)) (k := 1) (f := fun p => if p % 2 = 0 ∧ w % (t + p) = 0 then [[w / (t + p), t, p]] else []) fun p _ => by split <;> simp
    rwa [rngI_len] at this
  rwa [rngI_len] at this
structure Bds (w a b c d : Int) : Prop where
  w1 : 20 ≤ w
  w2 : w ≤ 1000
  a1 : 1 ≤ a
  ab : a ≤ b
  b2 : b ≤ 200
  c1 : 1 ≤ c
  cd : c ≤ d
  d2 : d ≤ 200
def rowD (w : Int) : D → D → List D
  | .int t, .int p => if p % 2 = 0 ∧ w % (t + p) = 0 then [tupI [w / (t + p), t, p]] else []
  | _, _ => []
theorem cand_D (w a b c d : Int) : (((rngI a (b + 1)).map PyData.int).flatMap fun x => ((rngI c (d + 1)).map PyData.int).flatMap (rowD w x)) = (cand w a b c d).map tupI := by
  unfold cand
  rw [List.map_flatMap]
  simp only [List.flatMap_map]
  congr 1
  funext t
  rw [List.map_flatMap]
  congr 1
  funext p
  show (if p % 2 = 0 ∧ w % (t + p) = 0 then [tupI [w / (t + p), t, p]] else []) = _
  split <;> rfl
def stL (w a b c d : Int) (acc : List D) (x y : Option Sl) : Rho := [some (.dat (brd w a b c d)), some (.dat (.int w)), some (.dat (.tuple [.int a, .int b])), some (.dat (.tuple [.int c, .int d])), some (.mut true (.lst acc)), x, y]
theorem rowD_len (w : Int) (x y : D) : (rowD w x y).length ≤ 1 := by
  unfold rowD
  split
  · split <;> simp
  · simp
theorem rows_ne {w a b c d : Int} : ∀ r ∈ cand w a b c d, r ≠ [] := by
  intro r hr
  simp only [cand, List.mem_flatMap] at hr
  obtain ⟨t, _, p, _, h⟩ := hr
  split at h
  · simp at h; subst h; simp
  · simp at h
theorem lawc_eq {w a b c d : Int} (B : Bds w a b c d) : F__law_corners [.dat (brd w a b c d)] = some (.ret (.list ((rows w a b c d).map tupI)) []) := by
  obtain ⟨w1, w2, a1, ab, b2, c1, cd, d2⟩ := B
  refine run_ret (ρ' := stL w a b c d ((cand w a b c d).map tupI) none none) ?_ (by simp [stL]) ⟨rfl, by decide⟩
  unfold m__law_corners
  refine (seq_nx (ρ1 := [some (.dat (brd w a b c d)), some (.dat (.int w)), some (.dat (.tuple [.int a, .int b])), some (.dat (.tuple [.int c, .int d])), none, none, none]) (by simp [rho0, avSl, brd, isInn])).trans ?_
  refine (seq_nx (ρ1 := stL w a b c d [] none none) (by simp [lstF, isInn, stL])).trans ?_
  refine (seq_nx (rows_for (ds := (rngI a (b + 1)).map PyData.int) (acc := []) (fun acc => stL w a b c d acc none none)
    (fun x => ((rngI c (d + 1)).map PyData.int).flatMap (rowD w x)) 200 100000 (by simp [stL, rng2_int (okR_of (i := a) (by omega) (by omega)) (okR_of (i := b + 1) (by omega) (by omega))]) ?_ (by simp [rngI_len]; omega))).trans ?_
  · intro x hx
    obtain ⟨t, ht, rfl⟩ := List.mem_map.mp hx
    have ht := mem_rngI.mp ht
    refine ⟨?_, fun acc hacc => ⟨stL w a b c d acc (some (.dat (.int t))) none, rfl, ?_⟩⟩
    · have := len_flatMap (l := (rngI c (d + 1)).map PyData.int) (k := 1) (f := rowD w (.int t)) fun p hp => rowD_len _ _ _
      rw [List.length_map, rngI_len] at this
      omega
    · refine (seq_nx (rows_for (ds := (rngI c (d + 1)).map PyData.int) (acc := acc) (fun acc => stL w a b c d acc (some (.dat (.int t))) none)
        (rowD w (.int t)) 1 100000 (by simp [stL, rng2_int (okR_of (i := c) (by omega) (by omega)) (okR_of (i := d + 1) (by omega) (by omega))]) ?_ (by simp [rngI_len]; omega))).trans rfl
      intro y hy
      obtain ⟨p, hp, rfl⟩ := List.mem_map.mp hy
      have hp := mem_rngI.mp hp
      refine ⟨rowD_len _ _ _, fun acc hacc => ⟨stL w a b c d acc (some (.dat (.int t))) (some (.dat (.int p))), rfl, ?_⟩⟩
      have hs : (0 : Int) < t + p := by omega
      have ediv : fdivD (.int w) (.int (t + p)) = some (.int (w / (t + p))) := fdivD_int hs (by have := log2_le (n := (t + p).natAbs) (k := 20) (by omega) (by decide); omega)
      have hl : acc.length < 16777216 := by omega
      by_cases h1 : p % 2 = 0
      · by_cases h2 : w % (t + p) = 0
        · simp [stL, h1, h2, modD_int (show (0 : Int) < 2 by decide), modD_int hs, ediv, tupD, hl, rowD, tupI, forget, isInn]
        · simp [stL, h1, h2, modD_int (show (0 : Int) < 2 by decide), modD_int hs, rowD, forget, isInn]
      · simp [stL, h1, modD_int (show (0 : Int) < 2 by decide), rowD, forget, isInn]
  · have e1 : [] ++ (((rngI a (b + 1)).map PyData.int).flatMap fun x => ((rngI c (d + 1)).map PyData.int).flatMap (rowD w x)) = (cand w a b c d).map tupI := cand_D w a b c d
    rw [e1]
    have hl : (cand w a b c d).length ≤ 16777216 := by
      have := @cand_len w a b c d
      have h2 : (b + 1 - a).toNat * ((d + 1 - c).toNat * 1) ≤ 200 * 200 := Nat.mul_le_mul (by omega) (by omega)
      omega
    have es := sortF_rows (cand w a b c d) rows_ne hl
    simp [stL, cellD, es, rows]
/-! ### what a corner is -/
def Cor (w a b c d m t p : Int) : Prop := 1 ≤ m ∧ m ≤ w ∧ a ≤ t ∧ t ≤ b ∧ c ≤ p ∧ p ≤ d ∧ p % 2 = 0 ∧ m * (t + p) = w
theorem isCor_iff {w a b c d m t p : Int} : isCor w a b c d (tupI [m, t, p]) = true ↔ Cor w a b c d m t p := by
  simp only [tupI, List.map_cons, List.map_nil, isCor, isNum, Bool.and_eq_true, decide_eq_true_eq, Cor]
  constructor
  · rintro ⟨⟨h1, h2⟩, ⟨⟨h3, h4⟩, h5, h6⟩, h7, h8⟩; exact ⟨h1, h2, h3, h4, h5, h6, h7, h8⟩
  · rintro ⟨h1, h2, h3, h4, h5, h6, h7, h8⟩; exact ⟨⟨h1, h2⟩, ⟨⟨h3, h4⟩, h5, h6⟩, h7, h8⟩
theorem mem_cand {w a b c d : Int} (B : Bds w a b c d) {r : List Int} : r ∈ cand w a b c d ↔ ∃ m t p, r = [m, t, p] ∧ Cor w a b c d m t p := by
  obtain ⟨w1, w2, a1, ab, b2, c1, cd, d2⟩ := B
  simp only [cand, List.mem_flatMap, mem_rngI]
  constructor
  · rintro ⟨t, ht, p, hp, h⟩
    split at h
    · rename_i hc
      simp only [List.mem_cons, List.not_mem_nil, or_false] at h
      have hs : (0 : Int) < t + p := by omega
      have e : w / (t + p) * (t + p) = w := Int.ediv_mul_cancel (Int.dvd_of_emod_eq_zero hc.2)
      have h1 : 1 ≤ w / (t + p) := by
        have : ¬ w / (t + p) ≤ 0 := fun z => by
          have := Int.mul_le_mul_of_nonneg_right z (Int.le_of_lt hs)
          rw [e] at this
          omega
        omega
      have h2 : w / (t + p) ≤ w := by
        have := Int.mul_le_mul_of_nonneg_left (show 1 ≤ t + p by omega) (show 0 ≤ w / (t + p) by omega)
        rw [e] at this
        omega
      exact ⟨_, t, p, h, h1, h2, ht.1, by omega, hp.1, by omega, hc.1, e⟩
    · simp at h
  · rintro ⟨m, t, p, rfl, h1, h2, h3, h4, h5, h6, h7, h8⟩
    refine ⟨t, ⟨h3, by omega⟩, p, ⟨h5, by omega⟩, ?_⟩
    have hs : t + p ≠ 0 := by omega
    have e : w / (t + p) = m := by rw [← h8]; exact Int.mul_ediv_cancel m hs
    have e2 : w % (t + p) = 0 := by rw [← h8]; exact Int.mul_emod_left m (t + p)
    rw [if_pos ⟨h7, e2⟩, e]
    simp
theorem cand_nodup (w a b c d : Int) : (cand w a b c d).Nodup := by
  unfold cand
  refine nodup2 (key := fun r => (r.getD 1 0, r.getD 2 0)) (rngI_sorted _ _) (rngI_sorted _ _) (fun t p => by split <;> simp) fun t p r hr => ?_
  split at hr
  · simp at hr; subst hr; rfl
  · simp at hr
/-! ### corners_of -/
def fineB (fine : Bool) : List Int → Bool
  | [_, t, p] => !fine || decide (2 * p ≤ t)
  | _ => true
open Classical in
noncomputable def cand1 (w a b c d : Int) (fine : Bool) : List (List Int) := (rngI 1 (w + 1)).flatMap fun m => (rngI c (d + 1)).flatMap fun p => if Cor w a b c d m (w / m - p) p ∧ fineB fine [m, w / m - p, p] = true then [[m, w / m - p, p]] else []
theorem mem_cand1 {w a b c d : Int} (B : Bds w a b c d) {fine : Bool} {r : List Int} : r ∈ cand1 w a b c d fine ↔ r ∈ (cand w a b c d).filter (fineB fine) := by
  rw [List.mem_filter, mem_cand B]
  simp only [cand1, List.mem_flatMap, mem_rngI]
  constructor
  · rintro ⟨m, hm, p, hp, h⟩
    split at h
    · rename_i hc
      simp only [List.mem_cons, List.not_mem_nil, or_false] at h
      subst h
      exact ⟨⟨m, _, p, rfl, hc.1⟩, hc.2⟩
    · simp at h
  · rintro ⟨⟨m, t, p, rfl, hc⟩, hf⟩
    have e : w / m - p = t := by
      have h8 := hc.2.2.2.2.2.2.2
      have h1 := hc.1
      have : w / m = t + p := by rw [← h8]; exact Int.mul_ediv_cancel_left _ (by omega)
      omega
    refine ⟨m, ⟨hc.1, by have := hc.2.1; omega⟩, p, ⟨hc.2.2.2.2.1, by have := hc.2.2.2.2.2.1; omega⟩, ?_⟩
    rw [e, if_pos ⟨hc, hf⟩]
    simp
theorem cand1_nodup (w a b c d : Int) (fine : Bool) : (cand1 w a b c d fine).Nodup := by
  unfold cand1
  refine nodup2 (key := fun r => (r.getD 0 0, r.getD 2 0)) (rngI_sorted _ _) (rngI_sorted _ _) (fun t p => by split <;> simp) fun t p r hr => ?_
  split at hr
  · simp at hr; subst hr; rfl
  · simp at hr
theorem sort1 {w a b c d : Int} (B : Bds w a b c d) (fine : Bool) : (cand1 w a b c d fine).mergeSort leR = (rows w a b c d).filter (fineB fine) := by
  unfold rows
  rw [sort_filter]
  exact sort_eq (cand1_nodup _ _ _ _ _ _) ((cand_nodup _ _ _ _ _).filter _) fun r => mem_cand1 B
end K95
namespace K95
open PySem PySem.Spec PyProof.Rows L2 DL
def rowE (w a b c d : Int) (fine : Bool) : D → D → List D
  | .int m, .int p => if (isCor w a b c d (tupI [m, w / m - p, p]) && fineB fine [m, w / m - p, p]) = true then [tupI [m, w / m - p, p]] else []
  | _, _ => []
theorem rowE_len (w a b c d : Int) (fine : Bool) (x y : D) : (rowE w a b c d fine x y).length ≤ 1 := by
  unfold rowE
  split
  · split <;> simp
  · simp
theorem cand1_D (w a b c d : Int) (fine : Bool) : (((rngI 1 (w + 1)).map PyData.int).flatMap fun x => ((rngI c (d + 1)).map PyData.int).flatMap (rowE w a b c d fine x)) = (cand1 w a b c d fine).map tupI := by
  unfold cand1
  rw [List.map_flatMap]
  simp only [List.flatMap_map]
  congr 1
  funext t
  rw [List.map_flatMap]
  congr 1
  funext p
  show (if (isCor w a b c d (tupI [t, w / t - p, p]) && fineB fine [t, w / t - p, p]) = true then [tupI [t, w / t - p, p]] else []) = _
  by_cases h : (isCor w a b c d (tupI [t, w / t - p, p]) && fineB fine [t, w / t - p, p]) = true
  · rw [if_pos h]
    rw [Bool.and_eq_true, isCor_iff] at h
    rw [if_pos h]; rfl
  · rw [if_neg h]
    rw [Bool.and_eq_true, isCor_iff] at h
    rw [if_neg h]; rfl
theorem cand1_ne {w a b c d : Int} {fine : Bool} : ∀ r ∈ cand1 w a b c d fine, r ≠ [] := by
  intro r hr
  simp only [cand1, List.mem_flatMap] at hr
  obtain ⟨t, _, p, _, h⟩ := hr
  split at h
  · simp at h; subst h; simp
  · simp at h
theorem cand1_len {w a b c d : Int} {fine : Bool} : (cand1 w a b c d fine).length ≤ (w + 1 - 1).toNat * ((d + 1 - c).toNat * 1) := by
  have e := congrArg List.length (cand1_D w a b c d fine)
  rw [List.length_map] at e
  rw [← e]
  have := len_flatMap (l := (rngI 1 (w + 1)).map PyData.int) (k := (d + 1 - c).toNat * 1) (f := fun x => ((rngI c (d + 1)).map PyData.int).flatMap (rowE w a b c d fine x)) fun t _ => by
    have := len_flatMap (l := (rngI c (d + 1)).map PyData.int) (k := 1) (f := rowE w a b c d fine t) fun p hp => rowE_len _ _ _ _ _ _ _ _
    rwa [List.length_map, rngI_len] at this
  rwa [List.length_map, rngI_len] at this
def stC (w a b c d : Int) (fine : Bool) (acc : List D) (x y z : Option Sl) : Rho := [some (.dat (brd w a b c d)), some (.dat (.bool fine)), some (.dat (.int w)), some (.dat (.tuple [.int a, .int b])), some (.dat (.tuple [.int c, .int d])), some (.mut true (.lst acc)), x, y, z]
theorem corn_eq {w a b c d : Int} (B : Bds w a b c d) (fine : Bool) : F_corners_of [.dat (brd w a b c d), .dat (.bool fine)] = some (.ret (.tuple (((rows w a b c d).filter (fineB fine)).map tupI)) []) := by
  have B' := B
  obtain ⟨w1, w2, a1, ab, b2, c1, cd, d2⟩ := B
  refine run_ret (ρ' := stC w a b c d fine ((cand1 w a b c d fine).map tupI) none none none) ?_ (by simp [stC]) ⟨rfl, by decide⟩
  unfold m_corners_of
  refine (seq_nx (ρ1 := [some (.dat (brd w a b c d)), some (.dat (.bool fine)), some (.dat (.int w)), some (.dat (.tuple [.int a, .int b])), some (.dat (.tuple [.int c, .int d])), none, none, none, none]) (by simp [rho0, avSl, brd, isInn])).trans ?_
  refine (seq_nx (ρ1 := stC w a b c d fine [] none none none) (by simp [lstF, isInn, stC])).trans ?_
  refine (seq_nx (rows_for (ds := (rngI 1 (w + 1)).map PyData.int) (acc := []) (fun acc => stC w a b c d fine acc none none none)
    (fun x => ((rngI c (d + 1)).map PyData.int).flatMap (rowE w a b c d fine x)) 200 1000000 (by simp [stC, rng2_int (okR_of (i := 1) (by omega) (by omega)) (okR_of (i := w + 1) (by omega) (by omega))]) ?_ (by simp [rngI_len]; omega))).trans ?_
  · intro x hx
    obtain ⟨m, hm, rfl⟩ := List.mem_map.mp hx
    have hm := mem_rngI.mp hm
    refine ⟨?_, fun acc hacc => ⟨stC w a b c d fine acc (some (.dat (.int m))) none none, rfl, ?_⟩⟩
    · have := len_flatMap (l := (rngI c (d + 1)).map PyData.int) (k := 1) (f := rowE w a b c d fine (.int m)) fun p hp => rowE_len _ _ _ _ _ _ _ _
      rw [List.length_map, rngI_len] at this
      omega
    · refine (seq_nx (rows_for (ds := (rngI c (d + 1)).map PyData.int) (acc := acc) (fun acc => stC w a b c d fine acc (some (.dat (.int m))) none none)
        (rowE w a b c d fine (.int m)) 1 1000000 (by simp [stC, rng2_int (okR_of (i := c) (by omega) (by omega)) (okR_of (i := d + 1) (by omega) (by omega))]) ?_ (by simp [rngI_len]; omega))).trans rfl
      intro y hy
      obtain ⟨p, hp, rfl⟩ := List.mem_map.mp hy
      have hp := mem_rngI.mp hp
      refine ⟨rowE_len _ _ _ _ _ _ _ _, fun acc hacc => ⟨stC w a b c d fine acc (some (.dat (.int m))) (some (.dat (.int p))) none, rfl, ?_⟩⟩
      have hs : (0 : Int) < m := by omega
      have ediv : fdivD (.int w) (.int m) = some (.int (w / m)) := fdivD_int hs (by have := log2_le (n := m.natAbs) (k := 20) (by omega) (by decide); omega)
      have hl : acc.length < 16777216 := by omega
      have ec := cor_eq (w := w) (a := a) (b := b) (c := c) (d := d) (by omega) (by omega) (by omega) (by omega) (by omega) (tupI [m, w / m - p, p]) (okD_tupI 59 _)
      have em : mulID (.int 2) (.int p) = some (.int (2 * p)) := mul_ok (a := 20) (b := 20) (by decide) (by omega) (by decide) (by decide) (by decide)
      have et : (PyData.tuple [.int m, .int (w / m - p), .int p]) = tupI [m, w / m - p, p] := rfl
      refine (seq_nx (ρ1 := stC w a b c d fine (acc ++ rowE w a b c d fine (.int m) (.int p)) (some (.dat (.int m))) (some (.dat (.int p))) (some (.dat (tupI [m, w / m - p, p])))) ?_).trans (by simp [stC, forget, isInn])
      refine (seq_nx (ρ1 := stC w a b c d fine acc (some (.dat (.int m))) (some (.dat (.int p))) (some (.dat (tupI [m, w / m - p, p])))) (by simp [stC, ediv, tupD, isInn, et])).trans ?_
      cases hc : isCor w a b c d (tupI [m, w / m - p, p]) with
      | false =>
        have e : rowE w a b c d fine (.int m) (.int p) = [] := by simp [rowE, hc]
        simp [stC, ec, hc, e]
      | true =>
        cases hf : fine with
        | false =>
          have e : rowE w a b c d false (.int m) (.int p) = [tupI [m, w / m - p, p]] := by simp [rowE, hc, fineB]
          simp [stC, ec, hc, e, hl]
        | true =>
          have ei : ixD (tupI [m, w / m - p, p]) (.int 1) = some (.int (w / m - p)) := ix_t1 _ _ _
          by_cases h3 : 2 * p ≤ w / m - p
          · have e : rowE w a b c d true (.int m) (.int p) = [tupI [m, w / m - p, p]] := by simp [rowE, hc, fineB, h3]
            simp [stC, ec, hc, e, em, hl, ei, h3]
          · have e : rowE w a b c d true (.int m) (.int p) = [] := by simp [rowE, hc, fineB, h3]
            simp [stC, ec, hc, e, em, hl, ei, h3]
  · have e1 : [] ++ (((rngI 1 (w + 1)).map PyData.int).flatMap fun x => ((rngI c (d + 1)).map PyData.int).flatMap (rowE w a b c d fine x)) = (cand1 w a b c d fine).map tupI := cand1_D w a b c d fine
    rw [e1]
    have hl : (cand1 w a b c d fine).length ≤ 16777216 := by
      have := @cand1_len w a b c d fine
      have h2 : (w + 1 - 1).toNat * ((d + 1 - c).toNat * 1) ≤ 1000 * 200 := Nat.mul_le_mul (by omega) (by omega)
      omega
    have es := sortF_rows (cand1 w a b c d fine) cand1_ne hl
    rw [sort1 B'] at es
    simp [stC, cellD, es, tupOf]
end K95
namespace K95
open PySem PySem.Spec PyProof.Rows L2 DL
def Is3 (R : List (List Int)) : Prop := ∀ r ∈ R, ∃ m t p, r = [m, t, p]
def mark : List Int → List Int
  | [m, t, p] => [m, -t, p]
  | r => r
def markD : D → D
  | .tuple [.int m, .int t, .int p] => tupI [m, -t, p]
  | d => d
theorem mark_map {R : List (List Int)} (h : Is3 R) : (((R.map tupI).filter fun _ => true).map markD) = (R.map mark).map tupI := by
  rw [List.filter_eq_self.mpr fun _ _ => rfl, List.map_map, List.map_map]
  refine List.map_congr_left fun r hr => ?_
  obtain ⟨m, t, p, rfl⟩ := h r hr
  rfl
theorem Is3.mark {R : List (List Int)} (h : Is3 R) : Is3 (R.map mark) := by
  intro r hr
  obtain ⟨r', hr', rfl⟩ := List.mem_map.mp hr
  obtain ⟨m, t, p, rfl⟩ := h r' hr'
  exact ⟨m, -t, p, rfl⟩
theorem minD_mem : ∀ (xs : List D) (x : D), PySem.W.minD x xs ∈ x :: xs
  | [], x => by simp [PySem.W.minD]
  | y :: xs, x => by
    have e : PySem.W.minD x (y :: xs) = PySem.W.minD (if PySem.W.dataLt y x = true then y else x) xs := rfl
    rw [e]
    rcases List.mem_cons.mp (minD_mem xs (if PySem.W.dataLt y x = true then y else x)) with h | h
    · rw [h]; split <;> simp
    · simp [h]
theorem min3 {R : List (List Int)} (h : Is3 R) (hne : R ≠ []) : ∃ m t p, minOf (.list (R.map tupI)) = some (tupI [m, t, p]) := by
  match R, hne with
  | r :: rs, _ =>
    have e : minOf (.list ((r :: rs).map tupI)) = some (PySem.W.minD (tupI r) (rs.map tupI)) := by
      have h1 := alikeB_rows (r :: rs)
      show (if alikeB ((r :: rs).map tupI) = true then _ else none) = _
      rw [if_pos h1]
    obtain ⟨q, hq, e2⟩ := List.mem_map.mp (show PySem.W.minD (tupI r) (rs.map tupI) ∈ (r :: rs).map tupI from minD_mem _ _)
    obtain ⟨m, t, p, rfl⟩ := h q hq
    exact ⟨m, t, p, by rw [e, ← e2]⟩
def toldD (R : List (List Int)) : D := match minOf (.list ((R.map mark).map tupI)) with
  | some (.tuple [.int m, .int t, .int p]) => tupI [m, -t, p]
  | _ => .none
theorem okD_told (R : List (List Int)) : okD 60 (toldD R) = true := by
  unfold toldD
  split
  · exact okD_tupI 59 _
  · rfl
theorem neD_nil {R : List (List Int)} : neD (.list (R.map tupI)) (.list []) = some (.bool (!R.isEmpty)) := by
  unfold neD
  rw [if_pos ⟨(okD_rows 58 R).1, rfl⟩]
  cases R <;> simp [PyData.eqv, PyData.eqvAll]
theorem told_run {R : List (List Int)} (h : Is3 R) {ρ : Rho} {i : Nat} (hi : ρ[i]? = some (some (.dat (.list ((R.map mark).map tupI))))) :
    (M.ife (M.asB (M.bin neD (varM i) (M.cell (M.lst (M.ret []))))) (M.tup (M.cons (M.bin ixD (M.un minOf (pkM i)) (M.ret (.int 0))) (M.cons (M.un negD (M.bin ixD (M.un minOf (pkM i)) (M.ret (.int 1)))) (M.cons (M.bin ixD (M.un minOf (pkM i)) (M.ret (.int 2))) (M.ret []))))) (M.ret .none)) ρ = some (.val (toldD R) ρ) := by
  cases hR : R with
  | nil =>
    have e : neD (.list []) (.list []) = some (.bool false) := @neD_nil []
    have e2 : toldD [] = .none := rfl
    subst hR
    simp only [List.map_nil] at hi
    simp [hi, lstF, cellD, e, e2]
  | cons r rs =>
    obtain ⟨m, t, p, e⟩ := min3 h.mark (by simp [hR])
    have e0 : toldD R = tupI [m, -t, p] := by unfold toldD; rw [e]; rfl
    have e1 := @neD_nil (R.map mark)
    have i0 : ixD (tupI [m, t, p]) (.int 0) = some (.int m) := ix_t0 _ _
    have i1 : ixD (tupI [m, t, p]) (.int 1) = some (.int t) := ix_t1 _ _ _
    have i2 : ixD (tupI [m, t, p]) (.int 2) = some (.int p) := ix_t2 _ _ _ _
    have e4 : (R.map mark).isEmpty = false := by rw [hR]; rfl
    rw [e4] at e1
    rw [← hR, e0]
    simp only [v_ife, v_asB, v_bind, v_bin, DL.v_var, hi, v_cell, v_lst, v_ret, lstF, List.length_nil, Nat.zero_le, if_true, v_lift, cellD, e1, bool_b, Bool.not_false, v_tup, v_cons, v_un, v_pk, e, i0, i1, i2, neg_i, tupD, List.length_cons]
    rfl
theorem rows_is3 {w a b c d : Int} (B : Bds w a b c d) : Is3 (rows w a b c d) := by
  intro r hr
  unfold rows at hr
  rw [List.mem_mergeSort, mem_cand B] at hr
  obtain ⟨m, t, p, rfl, _⟩ := hr
  exact ⟨m, t, p, rfl⟩
theorem Is3.filter {R : List (List Int)} (h : Is3 R) (b : List Int → Bool) : Is3 (R.filter b) := fun r hr => h r (List.mem_filter.mp hr).1
theorem rows_len {w a b c d : Int} (B : Bds w a b c d) : (rows w a b c d).length ≤ 40000 := by
  obtain ⟨w1, w2, a1, ab, b2, c1, cd, d2⟩ := B
  unfold rows
  rw [List.length_mergeSort]
  have := @cand_len w a b c d
  have h2 : (b + 1 - a).toNat * ((d + 1 - c).toNat * 1) ≤ 200 * 200 := Nat.mul_le_mul (by omega) (by omega)
  omega
def fr (w a b c d : Int) (fine : Bool) : List (List Int) := (rows w a b c d).filter (fineB fine)
theorem fr_len {w a b c d : Int} (B : Bds w a b c d) (fine : Bool) : (fr w a b c d fine).length ≤ 40000 := Nat.le_trans (List.length_filter_le _ _) (rows_len B)
theorem told_eq {w a b c d : Int} (B : Bds w a b c d) (fine : Bool) : F_told_corner [.dat (brd w a b c d), .dat (.bool fine)] = some (.ret (toldD (fr w a b c d fine)) []) := by
  have h3 : Is3 (fr w a b c d fine) := (rows_is3 B).filter _
  refine run_ret (ρ' := [some (.dat (brd w a b c d)), some (.dat (.bool fine)), some (.dat (.list (((fr w a b c d fine).map mark).map tupI))), none, none, none]) ?_ (by simp) ⟨rfl, by decide⟩
  unfold m_told_corner
  refine (seq_nx (ρ1 := [some (.dat (brd w a b c d)), some (.dat (.bool fine)), some (.dat (.list (((fr w a b c d fine).map mark).map tupI))), none, none, none]) ?_).trans ?_
  · have g := lc_run (ms := M.items (callM F_corners_of (M.cdat (varM 0) (M.cdat (varM 1) (M.ret []))))) (g := tgT 3 (tgCons (tgN 3) (tgCons (tgN 4) (tgCons (tgN 5) tgNil)))) (mt := M.yes) (me := M.tup (M.cons (varM 3) (M.cons (M.un negD (pkM 4)) (M.cons (varM 5) (M.ret []))))) (vs := [3, 4, 5])
      (ρ := [some (.dat (brd w a b c d)), some (.dat (.bool fine)), none, none, none, none]) (ρ1 := [some (.dat (brd w a b c d)), some (.dat (.bool fine)), none, none, none, none]) (b := fun _ => true) (y := markD) (ds := (fr w a b c d fine).map tupI)
      (by simp [corn_eq B fine, fr]) rfl rfl (by
        intro x hx
        obtain ⟨r, hr, rfl⟩ := List.mem_map.mp hx
        obtain ⟨m, t, p, rfl⟩ := h3 r hr
        exact turnG (ρ1 := [some (.dat (brd w a b c d)), some (.dat (.bool fine)), none, some (.dat (.int m)), some (.dat (.int t)), some (.dat (.int p))]) (by simp [tupI, isInn]) rfl (fun _ => by simp [tupD, markD, tupI]) rfl rfl) (by have := fr_len B fine; simp; omega)
    rw [mark_map h3] at g
    simp [rho0, avSl, g, isInn, frzR, cellD]
  · simp only [w_ret, w_of]
    rw [told_run h3 rfl]
/-! ### the numbers of tails -/
def sI (xs : List Int) : List Int := xs.foldl (fun a x => insI x a) []
theorem fold_insI : ∀ (xs acc : List Int), acc.Pairwise (· < ·) → (xs.foldl (fun a x => insI x a) acc).Pairwise (· < ·) ∧ ∀ j, j ∈ xs.foldl (fun a x => insI x a) acc ↔ j ∈ acc ∨ j ∈ xs
  | [], acc, h => ⟨h, fun j => by simp⟩
  | x :: xs, acc, h => by
    obtain ⟨h1, h2⟩ := fold_insI xs (insI x acc) (sorted_insI h)
    refine ⟨h1, fun j => ?_⟩
    rw [List.foldl_cons, h2, mem_insI, List.mem_cons, or_assoc]
theorem sI_sorted (xs : List Int) : (sI xs).Pairwise (· < ·) := (fold_insI xs [] .nil).1
theorem mem_sI {xs : List Int} {j : Int} : j ∈ sI xs ↔ j ∈ xs := by
  rw [sI, (fold_insI xs [] .nil).2]; simp
theorem lt_ext {xs ys : List Int} (h1 : xs.Pairwise (· < ·)) (h2 : ys.Pairwise (· < ·)) (h : ∀ j, j ∈ xs ↔ j ∈ ys) : xs = ys := by
  have n1 : xs.Nodup := h1.imp fun h => by omega
  have n2 : ys.Nodup := h2.imp fun h => by omega
  exact List.Perm.eq_of_pairwise (le := fun a b : Int => a < b) (fun a b _ _ x y => by omega) h1 h2 ((List.perm_ext_iff_of_nodup n1 n2).mpr h)
/-- the divisors of w are few -/
theorem sortedLen : ∀ (xs : List Int) (lo hi : Int), xs.Pairwise (· < ·) → (∀ x ∈ xs, lo ≤ x ∧ x < hi) → xs.length ≤ (hi - lo).toNat
  | [], _, _, _, _ => by simp
  | x :: xs, lo, hi, h, hb => by
    obtain ⟨h1, h2⟩ := List.pairwise_cons.mp h
    have := sortedLen xs (x + 1) hi h2 fun y hy => ⟨by have := h1 y hy; omega, (hb y (by simp [hy])).2⟩
    have := hb x (by simp)
    rw [List.length_cons]
    omega
theorem split_len (p : Int → Bool) : ∀ xs : List Int, (xs.filter p).length + (xs.filter fun x => !p x).length = xs.length
  | [] => rfl
  | x :: xs => by
    have := split_len p xs
    cases h : p x <;> simp [h] <;> omega
theorem few {w : Int} (h0 : 0 ≤ w) (hw : w ≤ 1000) {xs : List Int} (h : xs.Pairwise (· < ·)) (hd : ∀ x ∈ xs, 1 ≤ x ∧ x ≤ w ∧ w % x = 0) : xs.length < 64 := by
  have e := split_len (fun x => decide (x < 32)) xs
  have a := sortedLen _ 1 32 (h.filter fun x => decide (x < 32)) fun x hx => by
    obtain ⟨h1, h2⟩ := List.mem_filter.mp hx
    exact ⟨(hd x h1).1, by simpa using h2⟩
  have q : ∀ x, 1 ≤ x → w % x = 0 → w / x * x = w := fun x h1 h2 => Int.ediv_mul_cancel (Int.dvd_of_emod_eq_zero h2)
  have b := sortedLen ((xs.filter fun x => !decide (x < 32)).map fun x => -(w / x)) (-31) 0 (by
    refine List.pairwise_map.mpr ((h.filter _).imp_of_mem fun {x y} hx hy hlt => ?_)
    have hx := hd x (List.mem_filter.mp hx).1
    have hy := hd y (List.mem_filter.mp hy).1
    have e1 := q x hx.1 hx.2.2
    have e2 := q y hy.1 hy.2.2
    have py : 0 < w / y := by
      have : ¬ w / y ≤ 0 := fun z => by
        have := Int.mul_le_mul_of_nonneg_right z (show 0 ≤ y by omega)
        rw [e2] at this; omega
      omega
    have : ¬ w / x ≤ w / y := fun z => by
      have s1 := Int.mul_le_mul_of_nonneg_right z (show 0 ≤ x by omega)
      have s2 := Int.mul_lt_mul_of_pos_left hlt py
      omega
    omega) (by
    intro z hz
    obtain ⟨x, hx, rfl⟩ := List.mem_map.mp hz
    obtain ⟨h1, h2⟩ := List.mem_filter.mp hx
    have h2 : 32 ≤ x := by simpa using h2
    have hx := hd x h1
    have e1 := q x hx.1 hx.2.2
    have p1 : 0 < w / x := by
      have : ¬ w / x ≤ 0 := fun z => by
        have := Int.mul_le_mul_of_nonneg_right z (show 0 ≤ x by omega)
        rw [e1] at this; omega
      omega
    have : ¬ 32 ≤ w / x := fun z => by
      have s1 := Int.mul_le_mul_of_nonneg_right z (show 0 ≤ x by omega)
      omega
    exact ⟨by omega, by omega⟩)
  rw [List.length_map] at b
  omega
end K95
namespace K95
open PySem PySem.Spec PyProof.Rows L2 DL
def first (r : List Int) : Int := r.getD 0 0
def firstD : D → Int
  | .tuple (.int m :: _) => m
  | _ => 0
def fits (w a b c d : Int) : List Int := sI ((rows w a b c d).map first)
theorem fine_f (r : List Int) : fineB false r = true := by unfold fineB; split <;> rfl
theorem fr_false (w a b c d : Int) : fr w a b c d false = rows w a b c d := List.filter_eq_self.mpr fun r _ => fine_f r
theorem first_div {w a b c d : Int} (B : Bds w a b c d) {r : List Int} (h : r ∈ rows w a b c d) : 1 ≤ first r ∧ first r ≤ w ∧ w % first r = 0 := by
  unfold rows at h
  rw [List.mem_mergeSort, mem_cand B] at h
  obtain ⟨m, t, p, rfl, hc⟩ := h
  refine ⟨hc.1, hc.2.1, ?_⟩
  rw [← hc.2.2.2.2.2.2.2]
  exact Int.mul_emod_right m (t + p)
theorem sI_few {w a b c d : Int} (B : Bds w a b c d) {R : List (List Int)} (h : ∀ r ∈ R, r ∈ rows w a b c d) : (sI (R.map first)).length < 64 := by
  refine few (by have := B.w1; omega) B.w2 (sI_sorted _) fun x hx => ?_
  obtain ⟨r, hr, rfl⟩ := List.mem_map.mp (mem_sI.mp hx)
  exact first_div B (h r hr)
theorem fold_first (R : List (List Int)) (h : Is3 R) (acc : List Int) : ((R.map tupI).filter fun _ => true).foldl (fun a d => insI (firstD d) a) acc = (R.map first).foldl (fun a x => insI x a) acc := by
  rw [List.filter_eq_self.mpr fun _ _ => rfl, List.foldl_map, List.foldl_map]
  induction R generalizing acc with
  | nil => rfl
  | cons r R ih =>
    obtain ⟨m, t, p, rfl⟩ := h r (by simp)
    exact ih (fun r hr => h r (by simp [hr])) _
theorem tails_eq {w a b c d : Int} (B : Bds w a b c d) : F_tails_that_fit [.dat (brd w a b c d)] = some (.ret (.tuple ((fits w a b c d).map PyData.int)) []) := by
  have h3 := rows_is3 B
  refine run_ret (ρ' := [some (.dat (brd w a b c d)), none, none, none]) ?_ (by simp) ⟨rfl, by decide⟩
  have s := siLoop_run (g := tgT 3 (tgCons (tgN 1) (tgCons (tgN 2) (tgCons (tgN 3) tgNil)))) (mt := M.yes) (me := varM 1) (vs := [1, 2, 3]) (ρ := [some (.dat (brd w a b c d)), none, none, none]) (b := fun _ => true) (y := firstD) ((rows w a b c d).map tupI) []
    (fun x hx => by
      obtain ⟨r, hr, rfl⟩ := List.mem_map.mp hx
      obtain ⟨m, t, p, rfl⟩ := h3 r hr
      exact turnG (ρ1 := [some (.dat (brd w a b c d)), some (.dat (.int m)), some (.dat (.int t)), some (.dat (.int p))]) (by simp [tupI, isInn]) rfl (fun _ => by simp [firstD, tupI]) rfl rfl)
    (fun k _ => by
      rw [← List.map_take, fold_first _ (fun r hr => h3 r (List.mem_of_mem_take hr))]
      have := sI_few B (R := (rows w a b c d).take k) fun r hr => List.mem_of_mem_take hr
      unfold sI at this
      omega)
  rw [fold_first _ h3] at s
  have f := sI_few B (R := rows w a b c d) fun r hr => hr
  have e1 : F_corners_of [.dat (brd w a b c d), .dat (.bool false)] = some (.ret (.tuple ((rows w a b c d).map tupI)) []) := by
    have z := fr_false w a b c d
    unfold fr at z
    rw [corn_eq B false, z]
  have n : noInn [some (.dat (brd w a b c d)), none, none, none] [1, 2, 3] = true := rfl
  have wp : wipeR [some (.dat (brd w a b c d)), none, none, none] [1, 2, 3] = [some (.dat (brd w a b c d)), none, none, none] := rfl
  unfold m_tails_that_fit M.sset
  simp only [w_ret, w_of, v_un, v_cell, v_bind]
  have e2 : M.items (callM F_corners_of (M.cdat (varM 0) (M.cdat (M.ret (.bool false)) (M.ret [])))) (rho0 4 [.dat (brd w a b c d)]) = some (.val ((rows w a b c d).map tupI) [some (.dat (brd w a b c d)), none, none, none]) := by simp [rho0, avSl, e1]
  unfold sI at f
  simp only [e2, n, wp, s, f, if_true, and_self, cellD, v_ret, v_lift, tupOf]
  rfl
/-! ### sorted numbers -/
theorem alikeB_ints (xs : List Int) : alikeB (xs.map PyData.int) = true := by
  simp only [alikeB, List.all_map, List.all_eq_true, Function.comp_def, Bool.and_eq_true]
  exact fun x _ => ⟨⟨rfl, trivial⟩, fun y _ => by simp [PySem.W.alike]⟩
theorem le_int : (fun p q : Int => PySem.W.dataLe false (fun d => d) (.int p) (.int q)) = fun p q => decide (p ≤ q) := by
  funext p q
  rw [PySem.W.dataLe_eq]
  show (!PySem.W.dataLt (.int q) (.int p)) = _
  rw [PySem.W.dataLt_int]
  by_cases h : q < p
  · simp [h]
  · simp [h]; omega
theorem sortF_ints (xs : List Int) (h : xs.Nodup) (hl : xs.length ≤ 16777216) : sortF (.list (xs.map PyData.int)) = some (.lst ((sI xs).map PyData.int)) := by
  have h1 : sortB (xs.map PyData.int) = true := by
    simp only [sortB, alikeB_ints, Bool.true_and, Bool.or_eq_true]
    refine .inr ?_
    simp [List.all_map, isTupD]
  have e : (xs.map PyData.int).mergeSort (PySem.W.dataLe false fun d => d) = (xs.mergeSort fun p q => decide (p ≤ q)).map PyData.int :=
    (List.map_mergeSort fun a _ b _ => (congrFun (congrFun le_int a) b).symm).symm
  have e2 : (xs.mergeSort fun p q => decide (p ≤ q)) = sI xs := by
    refine lt_ext ?_ (sI_sorted xs) fun j => by rw [List.mem_mergeSort, mem_sI]
    have n := (List.mergeSort_perm xs fun p q => decide (p ≤ q)).nodup_iff.mpr h
    have s := List.pairwise_mergeSort (le := fun p q : Int => decide (p ≤ q)) (fun a b c h1 h2 => by simp only [decide_eq_true_eq] at *; omega) (fun a b => by simp; omega) xs
    exact (s.and n).imp fun {a b} h => by have := of_decide_eq_true h.1; have := h.2; omega
  simp only [sortF, h1, List.length_map, hl, and_self, if_true, e, e2]
def pr1 (r : List Int) : D := .tuple [.int (first r), .int 1]
theorem pairs_eq : ∀ R : List (List Int), pairsOf (R.map pr1) = some (R.map fun r => (.inl (first r), .int 1))
  | [] => rfl
  | r :: R => by
    rw [List.map_cons]
    show (match keyOf (.int (first r)), pairsOf (R.map pr1) with | some k, some ps => some ((k, PyData.int 1) :: ps) | _, _ => none) = _
    rw [pairs_eq R]
    rfl
theorem merge_keys : ∀ (ks : List Int) (acc : List (Key × D)) (is : List Int), acc.map (·.1) = is.map .inl → is.Nodup → ∃ js : List Int, (mergeD acc (ks.map fun k => ((.inl k : Key), PyData.int 1))).map (·.1) = js.map .inl ∧ js.Nodup ∧ ∀ j, j ∈ js ↔ j ∈ is ∨ j ∈ ks
  | [], acc, is, h, hn => ⟨is, h, hn, fun j => by simp⟩
  | k :: ks, acc, is, h, hn => by
    have e : mergeD acc ((k :: ks).map fun k => ((.inl k : Key), PyData.int 1)) = mergeD (putD acc (.inl k) (.int 1)) (ks.map fun k => ((.inl k : Key), PyData.int 1)) := rfl
    rw [e]
    have ha : (acc.any fun kv => decide (kv.1 = .inl k)) = decide (k ∈ is) := by
      rw [Bool.eq_iff_iff]
      simp only [List.any_eq_true, decide_eq_true_eq]
      have : (∃ kv ∈ acc, kv.1 = (.inl k : Key)) ↔ (.inl k : Key) ∈ acc.map (·.1) := by simp
      rw [this, h]
      simp
    by_cases hm : k ∈ is
    · obtain ⟨js, h1, h2, h3⟩ := merge_keys ks (putD acc (.inl k) (.int 1)) is (by
        unfold putD
        rw [ha, if_pos (by simpa using hm), List.map_map, ← h]
        refine List.map_congr_left fun kv _ => ?_
        simp only [Function.comp_apply]
        split <;> rfl) hn
      refine ⟨js, h1, h2, fun j => ?_⟩
      rw [h3, List.mem_cons]
      constructor
      · rintro (z | z)
        · exact .inl z
        · exact .inr (.inr z)
      · rintro (z | rfl | z)
        · exact .inl z
        · exact .inl hm
        · exact .inr z
    · obtain ⟨js, h1, h2, h3⟩ := merge_keys ks (putD acc (.inl k) (.int 1)) (is ++ [k]) (by
        unfold putD
        rw [ha, if_neg (by simpa using hm)]
        simp [h]) (by
        refine List.pairwise_append.mpr ⟨hn, by simp, fun x hx y hy => ?_⟩
        simp at hy
        subst hy
        exact fun z => hm (z ▸ hx))
      refine ⟨js, h1, h2, fun j => ?_⟩
      rw [h3]
      simp [or_assoc]
theorem dict_rows (R : List (List Int)) : ∃ js : List Int, ∃ kvs, dictOf (.list (R.map pr1)) = some (.dK kvs) ∧ keysC (.dK kvs) = some (js.map PyData.int) ∧ js.Nodup ∧ ∀ j, j ∈ js ↔ j ∈ R.map first := by
  obtain ⟨js, h1, h2, h3⟩ := merge_keys (R.map first) [] [] rfl .nil
  refine ⟨js, _, by simp only [dictOf, pairs_eq]; rfl, ?_, h2, fun j => by rw [h3]; simp⟩
  rw [List.map_map] at h1
  show some (List.map _ _) = _
  have : ∀ l : List (Key × D), (l.map fun kv => keyD kv.1) = (l.map (·.1)).map keyD := fun l => by rw [List.map_map]; rfl
  rw [this]
  have e : (mergeD [] (R.map fun r => ((.inl (first r) : Key), PyData.int 1))).map (·.1) = js.map .inl := h1
  rw [e, List.map_map]
  rfl
theorem sI_same {xs ys : List Int} (h : ∀ j, j ∈ xs ↔ j ∈ ys) : sI xs = sI ys := lt_ext (sI_sorted _) (sI_sorted _) fun j => by rw [mem_sI, mem_sI, h]
theorem nodup_len {xs ys : List Int} (h : xs.Nodup) (e : ∀ j, j ∈ xs ↔ j ∈ ys) : xs.length = (sI ys).length := by
  have n2 : (sI ys).Nodup := (sI_sorted ys).imp fun h => by omega
  exact ((List.perm_ext_iff_of_nodup h n2).mpr fun j => by rw [mem_sI, e]).length_eq
end K95
namespace K95
open PySem PySem.Spec PyProof.Rows L2 DL
def isI : D → Bool
  | .int _ => true
  | _ => false
theorem int_eq (d : D) (h : okD 60 d = true) : F__law_int [.dat d] = some (.ret (.bool (isI d)) []) := by
  cases d <;> simp [F__law_int, m__law_int, runF, rho0, avSl, isT_ok h, PyData.isInt, PyData.isBool, isI]
theorem same_eq (x y : Bool) : F__law_same [.dat (.bool x), .dat (.bool y)] = some (.ret (.bool (x == y)) []) := by
  cases y <;> simp [F__law_same, m__law_same, runF, rho0, avSl, truD]
def absN (z : Int) : Int := if z < 0 then -z else z
def absY : D → D
  | .int i => .int (absN i)
  | d => d
def drC (turn left : Int) (cells : List Int) : Cell := .lst [.int turn, .int left, .list (cells.map PyData.int)]
theorem cut63 (xs : List D) (h : xs.length ≤ 63) : cutD xs none (some 63) = xs := by
  refine cutD_whole _ _ _ ⟨rfl, ?_⟩
  have := HT.sIx_nat xs.length xs.length 63
  rw [show ((63 : Nat) : Int) = 63 from rfl] at this
  rw [this]
  omega
theorem open_eq (ns : List Int) (h : ns.length ≤ 63) : F__law_open [.dat (.list (ns.map PyData.int))] = some (.retF (drC 0 0 (ns.map absN ++ [0])) []) := by
  have g := lc_run (ms := M.items (M.sl (varM 0) (M.ret none) (M.part (M.ret (.int 63))))) (g := tgN 2) (mt := M.yes) (me := M.un absD (M.un intOfD (pkM 2))) (vs := [2]) (ρ := [some (.dat (.list (ns.map PyData.int))), none, none]) (ρ1 := [some (.dat (.list (ns.map PyData.int))), none, none]) (b := fun _ => true) (y := absY) (ds := ns.map PyData.int)
    (by simp [slD, cut63 _ (show (ns.map PyData.int).length ≤ 63 by simpa using h)]) rfl rfl (by
      intro x hx
      obtain ⟨r, hr, rfl⟩ := List.mem_map.mp hx
      exact turn1 (ρ1 := [some (.dat (.list (ns.map PyData.int))), none, some (.dat (.int r))]) rfl rfl rfl (fun _ => by simp [absD, absY, absN]) rfl rfl) (by simp; omega)
  have e : (((ns.map PyData.int).filter fun _ => true).map absY) = (ns.map absN).map PyData.int := by
    rw [List.filter_eq_self.mpr fun _ _ => rfl, List.map_map, List.map_map]; rfl
  rw [e] at g
  refine run_retF (ρ' := [some (.dat (.list (ns.map PyData.int))), some (.dat (.list ((ns.map absN).map PyData.int))), none]) ?_ (by simp) ⟨rfl, by decide⟩
  unfold m__law_open
  refine (seq_nx (ρ1 := [some (.dat (.list (ns.map PyData.int))), some (.dat (.list ((ns.map absN).map PyData.int))), none]) ?_).trans ?_
  · simp [rho0, avSl, g, isInn, frzR, cellD]
  · simp only [w_retF, w_of, v_lst, v_bind, v_cons, v_ret, v_bin, v_cell, lstF, List.length_cons, List.length_nil, cellD]
    have hl : ((ns.map absN).map PyData.int).length + 1 ≤ 16777216 := by simp; omega
    have ea : addD (.list ((ns.map absN).map PyData.int)) (.list [.int 0]) = some (.list ((ns.map absN ++ [0]).map PyData.int)) := by
      show (if _ then _ else _) = _
      rw [if_pos (by simpa using hl)]
      simp
    simp [ea, drC, -List.map_map]
theorem powA : powD (.int 2) (.int 61) = some (.int 2305843009213693952) := by simp [powD, DL.intD, okPow]
theorem powB : powD (.int 10) (.int 18) = some (.int 1000000000000000000) := by simp [powD, DL.intD, okPow]
theorem shr29 (n : Int) : shrD (.int n) (.int 29) = some (.int (n / 536870912)) := by simp [shrD, DL.intD, okShr]
theorem shr31 (n : Int) : shrD (.int n) (.int 31) = some (.int (n / 2147483648)) := by simp [shrD, DL.intD, okShr]
theorem xor61 {n m : Int} (h1 : 0 ≤ n) (h2 : n < 2 ^ 61) (h3 : 0 ≤ m) (h4 : m < 2 ^ 61) : ∃ x : Int, xorD (.int n) (.int m) = some (.int x) ∧ 0 ≤ x ∧ x < 2 ^ 61 := by
  refine ⟨_, rfl, Bits.bitXor_nonneg h1 h3, ?_⟩
  rw [Bits.bitXor_pp h1 h3]
  have := Nat.xor_lt_two_pow (x := n.toNat) (y := m.toNat) (n := 61) (by omega) (by omega)
  omega
theorem mixed_eq (cell turn : Int) (h0 : 0 ≤ turn) (h1 : turn ≤ 1000) : ∃ r, F__law_mixed [.dat (.int cell), .dat (.int turn)] = some (.ret (.int r) []) := by
  let k : Int := 2305843009213693952
  have hk : (0 : Int) < 2305843009213693952 := by decide
  have e1 : modD (.int cell) (.int 2305843009213693951) = some (.int (cell % 2305843009213693951)) := modD_int (by decide)
  have e2 : mulID (.int (cell % 2305843009213693951)) (.int 6364136223846793005) = some (.int (cell % 2305843009213693951 * 6364136223846793005)) := mul_ok (a := 62) (b := 64) (by omega) (by decide) (by decide) (by decide) (by decide)
  have e3 : mulID (.int turn) (.int 1442695040888963407) = some (.int (turn * 1442695040888963407)) := mul_ok (a := 62) (b := 64) (by omega) (by decide) (by decide) (by decide) (by decide)
  have em : ∀ n : Int, modD (.int n) (.int 2305843009213693952) = some (.int (n % 2305843009213693952)) := fun n => modD_int (by decide)
  generalize hn1 : (cell % 2305843009213693951 * 6364136223846793005 + turn * 1442695040888963407 + 97) % 2305843009213693952 = n1
  have b1 : 0 ≤ n1 ∧ n1 < 2 ^ 61 := by omega
  obtain ⟨x, ex, x0, x1⟩ := xor61 (m := n1 / 536870912) b1.1 b1.2 (by omega) (by omega)
  have e4 : mulID (.int x) (.int 3935559000370003845) = some (.int (x * 3935559000370003845)) := mul_ok (a := 62) (b := 64) (by omega) (by decide) (by decide) (by decide) (by decide)
  generalize hn2 : x * 3935559000370003845 % 2305843009213693952 = n2
  have b2 : 0 ≤ n2 ∧ n2 < 2 ^ 61 := by omega
  obtain ⟨y, ey, y0, y1⟩ := xor61 (m := n2 / 2147483648) b2.1 b2.2 (by omega) (by omega)
  have e5 : mulID (.int y) (.int 2862933555777941757) = some (.int (y * 2862933555777941757)) := mul_ok (a := 62) (b := 64) (by omega) (by decide) (by decide) (by decide) (by decide)
  refine ⟨y * 2862933555777941757 % 2305843009213693952, run_ret (ρ' := [some (.dat (.int cell)), some (.dat (.int turn)), some (.dat (.int n2))]) ?_ (by simp) ⟨rfl, by decide⟩⟩
  unfold m__law_mixed
  refine (seq_nx (ρ1 := [some (.dat (.int cell)), some (.dat (.int turn)), some (.dat (.int n1))]) (by simp [rho0, avSl, powA, e1, e2, e3, em, hn1, isInn])).trans ?_
  refine (seq_nx (ρ1 := [some (.dat (.int cell)), some (.dat (.int turn)), some (.dat (.int n2))]) (by simp [shr29, ex, e4, powA, em, hn2, isInn])).trans ?_
  simp [shr31, ey, e5, powA, em]
/-- the draws as they are -/
def DrS (n : Int) (c : Cell) : Prop := ∃ turn left cells, c = drC turn left cells ∧ 0 ≤ turn ∧ turn ≤ n ∧ cells ≠ [] ∧ cells.length ≤ 64
theorem at_ints {cells : List Int} {i : Int} (h0 : 0 ≤ i) (h1 : i < cells.length) : ∃ z, ixD (.list (cells.map PyData.int)) (.int i) = some (.int z) := by
  obtain ⟨n, rfl⟩ : ∃ n : Nat, i = n := ⟨i.toNat, by omega⟩
  have hn : n < cells.length := by omega
  exact ⟨cells[n], L2.atI_nat (xs := cells.map PyData.int) (j := n) (by simp [hn])⟩
theorem draw_eq {n size : Int} {c : Cell} (h : DrS n c) (hn : n ≤ 900) (h1 : 0 < size) (h2 : size < 2 ^ 40) : ∃ r c', F__law_draw [.ref c, .dat (.int size)] = some (.ret (.int r) [c']) ∧ DrS (n + 1) c' ∧ 0 ≤ r ∧ r < size := by
  obtain ⟨turn, left, cells, rfl, t0, t1, cne, cl⟩ := h
  have hlen : 0 < cells.length := List.length_pos_iff.mpr cne
  have em : ∀ i : Int, modD (.int i) (.int size) = some (.int (i % size)) := fun i => modD_int h1
  have ed : ∀ i : Int, fdivD (.int i) (.int size) = some (.int (i / size)) := fun i => fdivD_int h1 (by have := log2_le (n := size.natAbs) (k := 40) (by omega) (by decide); omega)
  have el : modD (.int turn) (.int (cells.length : Int)) = some (.int (turn % (cells.length : Int))) := modD_int (by omega)
  let st := fun (t l : Int) (x : Option Sl) => ([some (.mut false (drC turn left cells)), some (.dat (.int size)), some (.dat (.int t)), some (.dat (.int l)), some (.dat (.list (cells.map PyData.int))), x] : Rho)
  have mid : ∃ t l x, (S.ife (M.asB (M.bin ltD (varM 3) (pkM 1))) (S.seq (S.asg (M.bin ixD (varM 4) (M.bin modD (varM 2) (M.un lenD (pkM 4)))) (tgN 5))
    (S.seq (S.asg (M.ife (M.and (M.asB (M.bin ltD (varM 2) (M.un lenD (pkM 4)))) (M.asB (M.bin geD (varM 5) (M.bin powD (M.ret (.int 10)) (M.ret (.int 18)))))) (varM 5) (callM F__law_mixed (M.cdat (varM 5) (M.cdat (varM 2) (M.ret []))))) (tgN 3))
    (S.asg (M.bin addD (varM 2) (M.ret (.int 1))) (tgN 2)))) S.nx) (st turn left none) = some (.nx (st t l x)) ∧ 0 ≤ t ∧ t ≤ n + 1 := by
    by_cases hs : left < size
    · obtain ⟨z, ez⟩ := at_ints (cells := cells) (i := turn % (cells.length : Int)) (Int.emod_nonneg _ (by omega)) (Int.emod_lt_of_pos _ (by omega))
      obtain ⟨r, er⟩ := mixed_eq z turn t0 (by omega)
      by_cases ha : turn < (cells.length : Int)
      · by_cases hb : 1000000000000000000 ≤ z
        · exact ⟨turn + 1, z, some (.dat (.int z)), by simp [st, hs, el, ez, powB, ha, hb, isInn], by omega, by omega⟩
        · exact ⟨turn + 1, r, some (.dat (.int z)), by simp [st, hs, el, ez, powB, ha, hb, er, isInn], by omega, by omega⟩
      · exact ⟨turn + 1, r, some (.dat (.int z)), by simp [st, hs, el, ez, powB, ha, er, isInn], by omega, by omega⟩
    · exact ⟨turn, left, none, by simp [st, hs], t0, by omega⟩
  obtain ⟨t, l, x, em1, t2, t3⟩ := mid
  refine ⟨l % size, drC t (l / size) cells, ?_, ⟨t, l / size, cells, rfl, t2, t3, cne, cl⟩, Int.emod_nonneg _ (by omega), Int.emod_lt_of_pos _ h1⟩
  refine run_ret (ρ' := [some (.mut false (drC t (l / size) cells)), some (.dat (.int size)), some (.dat (.int t)), some (.dat (.int l)), some (.dat (.list (cells.map PyData.int))), x]) ?_ (by simp [outsOf]) ⟨rfl, by decide⟩
  unfold m__law_draw
  refine (seq_nx (ρ1 := st turn left none) ?_).trans ?_
  · simp [rho0, avSl, st, drC, cellD, isInn]
  refine (seq_nx em1).trans ?_
  simp [st, em, ed, drC, L2.ixN]
end K95
namespace K95
open PySem PySem.Spec PyProof.Rows L2 DL
/-! ### draws in the law -/
theorem draw_sh {n size : Int} {s0 : Option Sl} {c c1 : Cell} {r : List (Option Sl)} {m : M D} (hm : m (s0 :: some (.mut true c) :: r) = some (.val (.int size) (s0 :: some (.mut true c1) :: r))) (h : DrS n c1) (hn : n ≤ 900) (h1 : 0 < size) (h2 : size < 2 ^ 40) :
    ∃ k c', callM F__law_draw (M.cslot 1 (M.cdat m (M.ret []))) (s0 :: some (.mut true c) :: r) = some (.val (.int k) (s0 :: some (.mut true c') :: r)) ∧ DrS (n + 1) c' ∧ 0 ≤ k ∧ k < size := by
  obtain ⟨k, c', e, hd, k0, k1⟩ := draw_eq h hn h1 h2
  refine ⟨k, c', ?_, hd, k0, k1⟩
  have ea : avs (s0 :: some (.mut true c1) :: r) [.slot 1, .dat (.int size)] = some [.ref c1, .dat (.int size)] := rfl
  have ep : putOuts (s0 :: some (.mut true c1) :: r) [1] [c'] = s0 :: some (.mut true c') :: r := rfl
  simp [hm, ea, e, ep]
theorem draw2 {n p q N : Int} {s0 : Option Sl} {c : Cell} {r : List (Option Sl)} (h : DrS n c) (hn : n ≤ 800) (hp : 0 < p ∧ p ≤ N) (hq : 0 < q ∧ q ≤ N) (hN : N < 2 ^ 40) :
    ∃ k c', callM F__law_draw (M.cslot 1 (M.cdat (M.bin ixD (M.cell (M.lst (M.cons (M.ret (.int p)) (M.cons (M.ret (.int q)) (M.ret []))))) (callM F__law_draw (M.cslot 1 (M.cdat (M.ret (.int 2)) (M.ret []))))) (M.ret []))) (s0 :: some (.mut true c) :: r) = some (.val (.int k) (s0 :: some (.mut true c') :: r)) ∧ DrS (n + 2) c' ∧ 0 ≤ k ∧ k < N := by
  obtain ⟨i, c1, e1, d1, i0, i1⟩ := draw_sh (m := M.ret (.int 2)) (s0 := s0) (c := c) (r := r) rfl h (by omega) (by decide) (by decide)
  have : i = 0 ∨ i = 1 := by omega
  have ex : ∃ z, ixD (.list [.int p, .int q]) (.int i) = some (.int z) ∧ 0 < z ∧ z ≤ N := by
    rcases this with rfl | rfl
    · exact ⟨p, ix_l0 _ _, hp⟩
    · exact ⟨q, L2.atI_nat (xs := [PyData.int p, .int q]) (j := 1) rfl, hq⟩
  obtain ⟨z, ez, z0, z1⟩ := ex
  have em : (M.bin ixD (M.cell (M.lst (M.cons (M.ret (.int p)) (M.cons (M.ret (.int q)) (M.ret []))))) (callM F__law_draw (M.cslot 1 (M.cdat (M.ret (.int 2)) (M.ret []))))) (s0 :: some (.mut true c) :: r) = some (.val (.int z) (s0 :: some (.mut true c1) :: r)) := by
    simp only [v_bin, v_cell, v_lst, v_cons, v_ret, v_bind, lstF, List.length_cons, List.length_nil, Nat.reduceAdd, Nat.reduceLeDiff, if_true, v_lift, cellD, e1, ez]
  obtain ⟨k, c', e, hd, k0, k1⟩ := draw_sh em d1 (by omega) z0 (by omega)
  exact ⟨k, c', e, by rw [show n + 2 = n + 1 + 1 by omega]; exact hd, k0, by omega⟩
theorem draw3 {n p q o N : Int} {s0 : Option Sl} {c : Cell} {r : List (Option Sl)} (h : DrS n c) (hn : n ≤ 800) (hp : 0 < p ∧ p ≤ N) (hq : 0 < q ∧ q ≤ N) (ho : 0 < o ∧ o ≤ N) (hN : N < 2 ^ 40) :
    ∃ k c', callM F__law_draw (M.cslot 1 (M.cdat (M.bin ixD (M.cell (M.lst (M.cons (M.ret (.int p)) (M.cons (M.ret (.int q)) (M.cons (M.ret (.int o)) (M.ret [])))))) (callM F__law_draw (M.cslot 1 (M.cdat (M.ret (.int 3)) (M.ret []))))) (M.ret []))) (s0 :: some (.mut true c) :: r) = some (.val (.int k) (s0 :: some (.mut true c') :: r)) ∧ DrS (n + 2) c' ∧ 0 ≤ k ∧ k < N := by
  obtain ⟨i, c1, e1, d1, i0, i1⟩ := draw_sh (m := M.ret (.int 3)) (s0 := s0) (c := c) (r := r) rfl h (by omega) (by decide) (by decide)
  have : i = 0 ∨ i = 1 ∨ i = 2 := by omega
  have ex : ∃ z, ixD (.list [.int p, .int q, .int o]) (.int i) = some (.int z) ∧ 0 < z ∧ z ≤ N := by
    rcases this with rfl | rfl | rfl
    · exact ⟨p, ix_l0 _ _, hp⟩
    · exact ⟨q, L2.atI_nat (xs := [PyData.int p, .int q, .int o]) (j := 1) rfl, hq⟩
    · exact ⟨o, L2.atI_nat (xs := [PyData.int p, .int q, .int o]) (j := 2) rfl, ho⟩
  obtain ⟨z, ez, z0, z1⟩ := ex
  have em : (M.bin ixD (M.cell (M.lst (M.cons (M.ret (.int p)) (M.cons (M.ret (.int q)) (M.cons (M.ret (.int o)) (M.ret [])))))) (callM F__law_draw (M.cslot 1 (M.cdat (M.ret (.int 3)) (M.ret []))))) (s0 :: some (.mut true c) :: r) = some (.val (.int z) (s0 :: some (.mut true c1) :: r)) := by
    simp only [v_bin, v_cell, v_lst, v_cons, v_ret, v_bind, lstF, List.length_cons, List.length_nil, Nat.reduceAdd, Nat.reduceLeDiff, if_true, v_lift, cellD, e1, ez]
  obtain ⟨k, c', e, hd, k0, k1⟩ := draw_sh em d1 (by omega) z0 (by omega)
  exact ⟨k, c', e, by rw [show n + 2 = n + 1 + 1 by omega]; exact hd, k0, by omega⟩
/-! ### what the law asks of a value -/
def goodV (R : List (List Int)) : D → Bool
  | .tuple xs => (xs.filter fun x => !isI x).isEmpty && (R.map tupI).any fun y => PyData.eqv y (.tuple xs)
  | _ => false
theorem ints_of : ∀ {xs : List D}, (xs.filter fun x => !isI x).isEmpty = true → ∃ ys : List Int, xs = ys.map PyData.int
  | [], _ => ⟨[], rfl⟩
  | x :: xs, h => by
    cases x <;> try (simp [isI] at h; done)
    rename_i i
    obtain ⟨ys, e⟩ := ints_of (xs := xs) h
    exact ⟨i :: ys, by rw [e]; rfl⟩
theorem any_rows (R : List (List Int)) (ys : List Int) : ((R.map tupI).any fun y => PyData.eqv y (.tuple (ys.map PyData.int))) = decide (ys ∈ R) := by
  rw [Bool.eq_iff_iff]
  simp only [List.any_map, List.any_eq_true, Function.comp_apply, decide_eq_true_eq]
  constructor
  · rintro ⟨r, hr, e⟩
    have : PyData.eqv (tupI r) (tupI ys) = true := e
    rw [eqv_tupI] at this
    have := of_decide_eq_true this
    exact this ▸ hr
  · intro h
    refine ⟨ys, h, ?_⟩
    show PyData.eqv (tupI ys) (tupI ys) = true
    rw [eqv_tupI]; simp
theorem mem_rows {w a b c d : Int} (B : Bds w a b c d) {r : List Int} : r ∈ rows w a b c d ↔ ∃ m t p, r = [m, t, p] ∧ Cor w a b c d m t p := by
  unfold rows
  rw [List.mem_mergeSort, mem_cand B]
theorem isNum_isI {lo hi : Int} {x : D} (h : isI x = false) : isNum lo hi x = false := by
  cases x <;> simp_all [isI, isNum]
theorem isCor_good {w a b c d : Int} (B : Bds w a b c d) (v : D) : isCor w a b c d v = goodV (rows w a b c d) v := by
  cases v <;> try rfl
  rename_i xs
  cases h : (xs.filter fun x => !isI x).isEmpty with
  | true =>
    obtain ⟨ys, rfl⟩ := ints_of h
    simp only [goodV, h, Bool.true_and, any_rows]
    rw [Bool.eq_iff_iff, decide_eq_true_eq, mem_rows B]
    match ys with
    | [] => simp [isCor]
    | [x] => simp [isCor]
    | [x, y] => simp [isCor]
    | x :: y :: z :: u :: r => simp [isCor]
    | [m, t, p] =>
      have := @isCor_iff w a b c d m t p
      simp only [tupI] at this
      rw [this]
      constructor
      · exact fun h => ⟨m, t, p, rfl, h⟩
      · rintro ⟨m', t', p', e, h⟩
        cases e
        exact h
  | false =>
    simp only [goodV, h, Bool.false_and]
    match xs with
    | [] => rfl
    | [x] => rfl
    | [x, y] => rfl
    | x :: y :: z :: u :: r => rfl
    | [x, y, z] =>
      simp only [isCor]
      cases hx : isI x with
      | false => rw [isNum_isI hx]; rfl
      | true =>
        cases hy : isI y with
        | false => rw [isNum_isI hy]; simp
        | true =>
          cases hz : isI z with
          | false => rw [isNum_isI hz]; simp
          | true => simp [hx, hy, hz] at h
/-! ### the even pins -/
def evens (c d : Int) : List Int := (rngI c (d + 1)).filter fun p => decide (p % 2 = 0)
def dues (w a b e0 e1 : Int) : List Int := (rngI 1 (w + 1)).filter fun m => decide (w % m = 0) && (decide (a + e0 ≤ w / m) && decide (w / m ≤ b + e1))
theorem evens_mem {c d p : Int} : p ∈ evens c d ↔ (c ≤ p ∧ p ≤ d) ∧ p % 2 = 0 := by
  simp only [evens, List.mem_filter, mem_rngI, decide_eq_true_eq]
  omega
theorem evens_sorted (c d : Int) : (evens c d).Pairwise (· < ·) := (rngI_sorted _ _).filter _
theorem evens_ends {c d : Int} (h : evens c d ≠ []) : ∃ e0 e1, ixD (.list ((evens c d).map PyData.int)) (.int 0) = some (.int e0) ∧ ixD (.list ((evens c d).map PyData.int)) (.int (-1)) = some (.int e1) ∧ e0 ∈ evens c d ∧ e1 ∈ evens c d ∧ ∀ p ∈ evens c d, e0 ≤ p ∧ p ≤ e1 := by
  have s := evens_sorted c d
  generalize evens c d = E at *
  match E, h with
  | x :: xs, _ =>
    have hl : (x :: xs).length - 1 < (x :: xs).length := by simp
    refine ⟨x, (x :: xs)[(x :: xs).length - 1]'hl, ix_l0 _ _, ?_, by simp, List.getElem_mem _, fun p hp => ⟨?_, ?_⟩⟩
    · show L2.atI ((x :: xs).map PyData.int) (-1) = _
      unfold L2.atI L2.ixN
      have e1 : ((-1 : Int) + ((x :: xs).map PyData.int).length).toNat = (x :: xs).length - 1 := by
        rw [List.length_map]; omega
      have e2 : -((((x :: xs).map PyData.int).length : Nat) : Int) ≤ -1 := by
        rw [List.length_map, List.length_cons]; omega
      rw [if_neg (by decide), if_pos e2, e1]
      show ((x :: xs).map PyData.int)[(x :: xs).length - 1]? = _
      rw [List.getElem?_map, List.getElem?_eq_getElem hl]
      rfl
    · rcases List.mem_cons.mp hp with e | hp
      · omega
      · have := (List.pairwise_cons.mp s).1 p hp; omega
    · obtain ⟨i, hi, e⟩ := List.mem_iff_getElem.mp hp
      by_cases hl2 : i = (x :: xs).length - 1
      · subst hl2; omega
      · have := List.pairwise_iff_getElem.mp s i ((x :: xs).length - 1) hi hl (by omega)
        omega
theorem due_fits {w a b c d e0 e1 : Int} (B : Bds w a b c d) (hab : a < b) (h0 : e0 ∈ evens c d) (h1 : e1 ∈ evens c d) (h : ∀ p ∈ evens c d, e0 ≤ p ∧ p ≤ e1) : dues w a b e0 e1 = fits w a b c d := by
  refine lt_ext ((rngI_sorted _ _).filter _) (sI_sorted _) fun m => ?_
  unfold fits
  rw [mem_sI, List.mem_map]
  simp only [dues, List.mem_filter, mem_rngI, Bool.and_eq_true, decide_eq_true_eq]
  have q0 := evens_mem.mp h0
  have q1 := evens_mem.mp h1
  constructor
  · rintro ⟨⟨m1, m2⟩, hd, ha, hb⟩
    have e : w / m * m = w := Int.ediv_mul_cancel (Int.dvd_of_emod_eq_zero hd)
    have : ∃ t p, Cor w a b c d m t p := by
      by_cases hs : w / m - e0 ≤ b
      · exact ⟨w / m - e0, e0, m1, by omega, by omega, hs, by omega, by omega, q0.2, by rw [show w / m - e0 + e0 = w / m by omega, Int.mul_comm]; exact e⟩
      · by_cases hp : (w / m - b) % 2 = 0
        · exact ⟨b, w / m - b, m1, by omega, by omega, by omega, by omega, by omega, hp, by rw [show b + (w / m - b) = w / m by omega, Int.mul_comm]; exact e⟩
        · exact ⟨b - 1, w / m - b + 1, m1, by omega, by omega, by omega, by omega, by omega, by omega, by rw [show b - 1 + (w / m - b + 1) = w / m by omega, Int.mul_comm]; exact e⟩
    obtain ⟨t, p, hc⟩ := this
    exact ⟨[m, t, p], (mem_rows B).mpr ⟨m, t, p, rfl, hc⟩, rfl⟩
  · rintro ⟨r, hr, rfl⟩
    obtain ⟨m, t, p, rfl, hc⟩ := (mem_rows B).mp hr
    obtain ⟨c1, c2, c3, c4, c5, c6, c7, c8⟩ := hc
    have hp := h p (evens_mem.mpr ⟨⟨c5, c6⟩, c7⟩)
    have e : w / m = t + p := by rw [← c8]; exact Int.mul_ediv_cancel_left _ (by omega)
    show (1 ≤ m ∧ m < w + 1) ∧ w % m = 0 ∧ a + e0 ≤ w / m ∧ w / m ≤ b + e1
    rw [e]
    exact ⟨⟨c1, by omega⟩, by rw [← c8]; exact Int.mul_emod_right m (t + p), by omega, by omega⟩
/-! ### the boards -/
theorem board_t {w a b c d : Int} (B : Bds w a b c d) : isBoard (brd w a b c d) = true := by
  obtain ⟨w1, w2, a1, ab, b2, c1, cd, d2⟩ := B
  have h1 : a ≤ 200 := by omega
  have h2 : 1 ≤ b := by omega
  have h3 : c ≤ 200 := by omega
  have h4 : 1 ≤ d := by omega
  simp [isBoard, brd, isNum, isBnd, w1, w2, a1, ab, b2, c1, cd, d2, h1, h2, h3, h4]
def wrongs (w a b c d : Int) : List D :=
  let T : D := .tuple [.int a, .int b]
  let P : D := .tuple [.int c, .int d]
  [.none, .tuple [.int w, T], .list [.int w, T, P], .tuple [.int w, T, P, .int 0], .tuple [.int 19, T, P], .tuple [.int 1001, T, P], .tuple [.bool true, T, P], .tuple [.none, T, P], .tuple [.int w, .list [.int a, .int b], P], .tuple [.int w, T, .list [.int c, .int d]],
   .tuple [.int w, .tuple [.int 5], P], .tuple [.int w, T, .tuple [.int 5, .int 6, .int 7]], .tuple [.int w, .tuple [.int 6, .int 5], P], .tuple [.int w, T, .tuple [.int 6, .int 5]], .tuple [.int w, .tuple [.int 0, .int 5], P], .tuple [.int w, T, .tuple [.int 5, .int 201]], .tuple [.int w, .tuple [.bool true, .int 5], P], .tuple [.int w, T, .tuple [.int 5, .none]], .int 5]
theorem wrongs_f {w a b c d : Int} : ∀ v ∈ wrongs w a b c d, isBoard v = false ∧ okD 60 v = true := by
  intro v hv
  simp only [wrongs, List.mem_cons, List.not_mem_nil, or_false] at hv
  rcases hv with rfl | rfl | rfl | rfl | rfl | rfl | rfl | rfl | rfl | rfl | rfl | rfl | rfl | rfl | rfl | rfl | rfl | rfl | rfl <;> exact ⟨by simp [isBoard, isNum, isBnd], by simp [okD]⟩
end K95
namespace K95
open PySem PySem.Spec PyProof.Rows L2 DL
theorem body_k {n : Int} {s0 x2 : Option Sl} {c : Cell} {acc : List D} {k : D} {rest : List (Option Sl)} (h : DrS n c) (hn : n ≤ 700) (hl : acc.length < 100) :
    ∃ lo hi c', (S.seq (S.seq (S.asg (M.bin addD (M.ret (.int 1)) (callM F__law_draw (M.cslot 1 (M.cdat (M.bin ixD (M.cell (M.lst (M.cons (M.ret (.int 12)) (M.cons (M.ret (.int 60)) (M.ret []))))) (callM F__law_draw (M.cslot 1 (M.cdat (M.ret (.int 2)) (M.ret []))))) (M.ret []))))) (tgN 5))
    (S.drop (M.app 3 (M.tup (M.cons (varM 5) (M.cons (M.bin minI (M.ret (.int 200)) (M.bin addD (varM 5) (callM F__law_draw (M.cslot 1 (M.cdat (M.bin ixD (M.cell (M.lst (M.cons (M.ret (.int 1)) (M.cons (M.ret (.int 2)) (M.cons (M.ret (.int 30)) (M.ret [])))))) (callM F__law_draw (M.cslot 1 (M.cdat (M.ret (.int 3)) (M.ret []))))) (M.ret [])))))) (M.ret []))))))) (S.fgt [4, 5]))
      (s0 :: some (.mut true c) :: x2 :: some (.mut true (.lst acc)) :: some (.dat k) :: none :: rest) = some (.nx (s0 :: some (.mut true c') :: x2 :: some (.mut true (.lst (acc ++ [.tuple [.int lo, .int hi]]))) :: none :: none :: rest)) ∧ DrS (n + 4) c' ∧ 1 ≤ lo ∧ lo ≤ hi ∧ hi ≤ 200 := by
  obtain ⟨z1, c1, e1, d1, z10, z11⟩ := draw2 (p := 12) (q := 60) (N := 60) (s0 := s0) (r := x2 :: some (.mut true (.lst acc)) :: some (.dat k) :: none :: rest) h (by omega) (by decide) (by decide) (by decide)
  obtain ⟨z2, c2, e2, d2, z20, z21⟩ := draw3 (p := 1) (q := 2) (o := 30) (N := 30) (s0 := s0) (r := x2 :: some (.mut true (.lst acc)) :: some (.dat k) :: some (.dat (.int (1 + z1))) :: rest) d1 (by omega) (by decide) (by decide) (by decide) (by decide)
  have hl2 : acc.length < 16777216 := by omega
  refine ⟨1 + z1, if 1 + z1 + z2 < 200 then 1 + z1 + z2 else 200, c2, ?_, by rw [show n + 4 = n + 2 + 2 by omega]; exact d2, by omega, by split <;> omega, by split <;> omega⟩
  refine (seq_nx (ρ1 := s0 :: some (.mut true c2) :: x2 :: some (.mut true (.lst (acc ++ [.tuple [.int (1 + z1), .int (if 1 + z1 + z2 < 200 then 1 + z1 + z2 else 200)]]))) :: some (.dat k) :: some (.dat (.int (1 + z1))) :: rest) ?_).trans (by simp [forget, isInn])
  refine (seq_nx (ρ1 := s0 :: some (.mut true c1) :: x2 :: some (.mut true (.lst acc)) :: some (.dat k) :: some (.dat (.int (1 + z1))) :: rest) ?_).trans ?_
  · simp [-v_callM, e1, isInn]
  · simp [-v_callM, e2, isInn, minI, tupD, hl2]
def Tr (m : SS) (ρ : Rho) : Prop := ∃ ρ', m ρ = some (.ret (.bool true) ρ') ∧ ρ' ≠ []
theorem Tr.seq {m n : SS} {ρ ρ1 : Rho} (h : m ρ = some (.nx ρ1)) (t : Tr n ρ1) : Tr (S.seq m n) ρ := by
  obtain ⟨ρ', e, o⟩ := t
  exact ⟨ρ', (seq_nx h).trans e, o⟩
theorem forS_two {ms : M (List D)} {g : TgM} {body : SS} {ρ ρ0 ρ1 ρ2 ρ3 ρ4 : Rho} {x y : D} (hm : ms ρ = some (.val [x, y] ρ0)) (g1 : g x ρ0 = some ρ1) (b1 : body ρ1 = some (.nx ρ2)) (g2 : g y ρ2 = some ρ3) (b2 : body ρ3 = some (.nx ρ4)) : S.forS ms g body ρ = some (.nx ρ4) := by
  unfold S.forS
  rw [of_val hm]
  show (match g x ρ0 with | none => none | some ρ1 => S.turn body (loopM g body [y]) ρ1) = _
  rw [g1]
  show S.turn body (loopM g body [y]) ρ1 = _
  unfold S.turn
  rw [b1]
  show (match g y ρ2 with | none => none | some ρ1 => S.turn body (loopM g body []) ρ1) = _
  rw [g2]
  show S.turn body (loopM g body []) ρ3 = _
  unfold S.turn
  rw [b2]
  rfl
theorem for_const {ms : M (List D)} {g : TgM} {body : SS} {ρ ρ0 : Rho} {ds : List D} (hm : ms ρ = some (.val ds ρ0)) (hs : ∀ d ∈ ds, ∃ ρ1, g d ρ0 = some ρ1 ∧ body ρ1 = some (.nx ρ0)) : S.forS ms g body ρ = some (.nx ρ0) :=
  for_run (α := Unit) (fun _ => ρ0) (fun _ _ => ()) (fun l _ => ∀ d ∈ l, d ∈ ds) hm (fun d r _ h => by
    obtain ⟨ρ1, e1, e2⟩ := hs d (h d (by simp))
    exact ⟨ρ1, e1, e2, fun x hx => h x (by simp [hx])⟩) (a := ()) fun d hd => hd
theorem lc_nil {ms : M (List D)} {g : TgM} {mt : M Bool} {me : M D} {vs : List Nat} {ρ ρ1 : Rho} {b : D → Bool} {ds : List D} (hm : ms ρ = some (.val ds ρ1)) (hn : noInn ρ1 vs = true) (hw : wipeR ρ1 vs = ρ1) (h : ∀ d ∈ ds, Turns g mt me vs ρ1 b id d) (hb : ∀ d ∈ ds, b d = false) (hl : ds.length ≤ 16777216) : M.lc ms g mt me vs ρ = some (.val (.lst []) ρ1) := by
  rw [lc_run hm hn hw h hl, List.filter_eq_nil_iff.mpr fun d hd => by simp [hb d hd]]
  rfl
def fineD (fine : Bool) : D → Bool
  | .tuple [.int m, .int t, .int p] => fineB fine [m, t, p]
  | _ => false
theorem filter_rows {R : List (List Int)} (h : Is3 R) (fine : Bool) : ((R.map tupI).filter (fineD fine)).map id = (R.filter (fineB fine)).map tupI := by
  rw [List.map_id, List.filter_map]
  congr 1
  refine List.filter_congr fun r hr => ?_
  obtain ⟨m, t, p, rfl⟩ := h r hr
  rfl
theorem cell_nil (ρ : Rho) : (M.cell (M.lst (M.ret []))) ρ = some (.val (.list []) ρ) := rfl
theorem ne_nil_nil : neD (.list []) (.list []) = some (.bool false) := @neD_nil []
theorem ix_l1 (x y : D) (xs : List D) : ixD (.list (x :: y :: xs)) (.int 1) = some y := L2.atI_nat (xs := x :: y :: xs) (j := 1) rfl
def pr1D : D → D
  | .tuple (x :: _) => .tuple [x, .int 1]
  | d => d
theorem pr1_map {R : List (List Int)} (h : Is3 R) : ((R.map tupI).filter fun _ => true).map pr1D = R.map pr1 := by
  rw [List.filter_eq_self.mpr fun _ _ => rfl, List.map_map]
  refine List.map_congr_left fun r hr => ?_
  obtain ⟨m, t, p, rfl⟩ := h r hr
  rfl
def onI (p : Int → Bool) : D → Bool
  | .int i => p i
  | _ => false
theorem filt_ints (p : Int → Bool) (xs : List Int) : ((xs.map PyData.int).filter (onI p)).map id = (xs.filter p).map PyData.int := by
  rw [List.map_id, List.filter_map]
  rfl
theorem okD_ints (n : Nat) (xs : List Int) : okD (n + 1) (.list (xs.map PyData.int)) = true ∧ okD (n + 1) (.tuple (xs.map PyData.int)) = true := by
  simp only [okD, List.all_map, List.all_eq_true]
  constructor <;> intro x _ <;> cases n <;> rfl
theorem neD_ints (xs ys : List Int) : neD (.list (xs.map PyData.int)) (.list (ys.map PyData.int)) = some (.bool (!decide (xs = ys))) := by
  unfold neD
  rw [if_pos ⟨(okD_ints 59 xs).1, (okD_ints 59 ys).1⟩, PyData.eqv, eqv_ints]
theorem max4 (a b c d : Int) : ∃ z, maxOf (.tuple [.int a, .int b, .int c, .int d]) = some (.int z) := by
  have h1 := alikeB_ints [a, b, c, d]
  refine ⟨[b, c, d].foldl max a, ?_⟩
  show (if alikeB ([a, b, c, d].map PyData.int) = true then some (PySem.W.maxD (.int a) ([b, c, d].map PyData.int)) else none) = _
  rw [if_pos h1, PySem.W.maxD_ints]
theorem isCor_twice {w a b c d m t p : Int} (h : Cor w a b c d m t p) : isCor (2 * w) (2 * a) (2 * b) (2 * c) (2 * d) (tupI [m, 2 * t, 2 * p]) = true := by
  rw [isCor_iff]
  obtain ⟨k1, k2, k3, k4, k5, k6, k7, k8⟩ := h
  refine ⟨k1, by omega, by omega, by omega, by omega, by omega, by omega, ?_⟩
  rw [← Int.mul_add, Int.mul_left_comm, k8]
def vals (m t p : Int) : List D :=
  [tupI [m, t, p], tupI [m + 1, t, p], tupI [m, t + 1, p - 1], tupI [m, t - 2, p + 2], tupI [m, t + 2, p - 2], tupI [m, t, p + 1], .list [.int m, .int t, .int p], .tuple [.int m, .int t], .tuple [.int m, .int t, .int p, .int 0],
   tupI [0, t, p], tupI [-m, -t, -p], .tuple [.none, .int t, .int p], .tuple [.int m, .none, .int p], .tuple [.int m, .int t, .none], .tuple [.bool true, .int t, .int p], .tuple [], .none, .int 5]
theorem vals_ok {m t p : Int} : ∀ v ∈ vals m t p, okD 60 v = true ∧ ∀ xs, v = .tuple xs → xs.length ≤ 4 := by
  intro v hv
  simp only [vals, List.mem_cons, List.not_mem_nil, or_false] at hv
  rcases hv with rfl | rfl | rfl | rfl | rfl | rfl | rfl | rfl | rfl | rfl | rfl | rfl | rfl | rfl | rfl | rfl | rfl | rfl <;> exact ⟨rfl, fun xs e => by cases e <;> simp⟩
theorem good_run {R : List (List Int)} {v : D} {ρ : Rho} (ho : okD 60 v = true) (hl : ∀ xs, v = .tuple xs → xs.length ≤ 4) (h24 : ρ[24]? = some (some (.dat v))) (h10 : ρ[10]? = some (some (.dat (.list (R.map tupI))))) (h27 : ρ[27]? = some none) :
    (M.andV (M.un (isT PyData.isTuple) (pkM 24)) (M.andV (M.bin eqD (M.cell (M.lc (M.items (varM 24)) (tgN 27) (M.notB (M.tru (callM F__law_int (M.cdat (varM 27) (M.ret []))))) (varM 27) [27])) (M.cell (M.lst (M.ret [])))) (M.bin inD (varM 24) (pkM 10)))) ρ = some (.val (.bool (goodV R v)) ρ) := by
  have hn : noInn ρ [27] = true := by simp [noInn, isInn, h27]
  have hlt : 27 < ρ.length := by
    by_cases h : 27 < ρ.length
    · exact h
    · rw [List.getElem?_eq_none (by omega)] at h27; cases h27
  have hw : wipeR ρ [27] = ρ := by
    show ρ.set 27 none = ρ
    rw [List.getElem?_eq_getElem hlt] at h27
    have := List.set_getElem_self hlt
    rw [Option.some.inj h27] at this
    exact this
  cases v with
  | tuple xs =>
    have g := lc_run (ms := M.items (varM 24)) (g := tgN 27) (mt := M.notB (M.tru (callM F__law_int (M.cdat (varM 27) (M.ret []))))) (me := varM 27) (vs := [27]) (b := fun x => !isI x) (y := id) (ρ := ρ) (ρ1 := ρ) (ds := xs) (by simp [h24]) hn hw (fun x hx => by
      have hx2 : (ρ.set 27 (some (.dat x)))[27]? = some (some (.dat x)) := by simp [hlt]
      have q := int_eq x (okD_tup ho x hx)
      refine turn1 (ρ1 := ρ.set 27 (some (.dat x))) (by simp [isInn, h27]) rfl (by simp [-List.getElem?_set, hx2, q, truD]) (fun _ => by simp [-List.getElem?_set, hx2]) (by simp [-List.getElem?_set, noInn, isInn, hx2]) ?_
      show (ρ.set 27 (some (.dat x))).set 27 none = ρ
      rw [List.set_set]; exact hw) (by have := hl xs rfl; omega)
    rw [List.map_id] at g
    have ok1 : okD 60 (.list (xs.filter fun x => !isI x)) = true := by
      simp only [okD, List.all_eq_true] at ho ⊢
      exact fun x hx => ho x (List.mem_filter.mp hx).1
    have ee : eqD (.list (xs.filter fun x => !isI x)) (.list []) = some (.bool (xs.filter fun x => !isI x).isEmpty) := by
      unfold eqD
      rw [if_pos ⟨ok1, rfl⟩]
      generalize xs.filter (fun x => !isI x) = ys
      cases ys <;> simp [PyData.eqv, PyData.eqvAll]
    have ei : inD (.tuple xs) (.list (R.map tupI)) = some (.bool ((R.map tupI).any fun y => PyData.eqv y (.tuple xs))) := by
      exact if_pos ⟨ho, (okD_rows 58 R).1⟩
    have gc : (M.cell (M.lc (M.items (varM 24)) (tgN 27) (M.notB (M.tru (callM F__law_int (M.cdat (varM 27) (M.ret []))))) (varM 27) [27])) ρ = some (.val (.list (xs.filter fun x => !isI x)) ρ) := by
      simp only [v_cell, v_bind, g]
      rfl
    have e0 : (M.un (isT PyData.isTuple) (pkM 24)) ρ = some (.val (.bool true) ρ) := by simp [h24, isT_ok ho, PyData.isTuple]
    have e1 : (M.bin inD (varM 24) (pkM 10)) ρ = some (.val (.bool ((R.map tupI).any fun y => PyData.eqv y (.tuple xs))) ρ) := by simp only [v_bin, v_bind, DL.v_var, h24, v_pk, h10, ei, v_lift]
    have e2 : (M.bin eqD (M.cell (M.lc (M.items (varM 24)) (tgN 27) (M.notB (M.tru (callM F__law_int (M.cdat (varM 27) (M.ret []))))) (varM 27) [27])) (M.cell (M.lst (M.ret [])))) ρ = some (.val (.bool (xs.filter fun x => !isI x).isEmpty) ρ) := by
      simp only [v_bin, v_bind, gc, cell_nil, ee, v_lift]
    simp only [v_andV, v_bind, e0, e2]
    cases hq : (xs.filter fun x => !isI x).isEmpty with
    | false => simp [goodV, hq]
    | true =>
      simp only [e1]
      simp [goodV, hq]
  | _ => simp [h24, isT_ok ho, PyData.isTuple, goodV]
theorem rng_two : rng1D [.int 2] = some [.int 0, .int 1] := rfl
def stB (s0 x3 x9 : Option Sl) (cl : Cell) (w a b c d : Int) (x11 x12 x13 x14 x15 x16 x17 x18 x19 x20 x21 x22 x23 x24 x25 x26 x27 : Option Sl) : Rho :=
  s0 :: some (.mut true cl) :: some (.dat (.int w)) :: x3 :: none :: none :: some (.dat (brd w a b c d)) :: some (.dat (.tuple [.int a, .int b])) :: some (.dat (.tuple [.int c, .int d])) :: x9 :: some (.dat (.list ((rows w a b c d).map tupI))) :: x11 :: x12 :: x13 :: x14 :: x15 :: x16 :: x17 :: x18 :: x19 :: x20 :: x21 :: x22 :: x23 :: x24 :: x25 :: x26 :: x27 :: []
theorem law_tr (ns : List Int) (hns : ns.length ≤ 63) : Tr m_law (rho0 28 [.dat (.list (ns.map PyData.int))]) := by
  have d0 : DrS 0 (drC 0 0 (ns.map absN ++ [0])) := ⟨0, 0, _, rfl, by decide, by decide, by simp, by simp; omega⟩
  have eo := open_eq ns hns
  generalize drC 0 0 (ns.map absN ++ [0]) = c0 at d0 eo
  let s0 : Option Sl := some (.dat (.list (ns.map PyData.int)))
  have hr : rho0 28 [.dat (.list (ns.map PyData.int))] = s0 :: none :: none :: none :: none :: none :: none :: none :: none :: none :: none :: none :: none :: none :: none :: none :: none :: none :: none :: none :: none :: none :: none :: none :: none :: none :: none :: none :: [] := rfl
  rw [hr]
  unfold m_law
  refine Tr.seq (ρ1 := s0 :: some (.mut true c0) :: none :: none :: none :: none :: none :: none :: none :: none :: none :: none :: none :: none :: none :: none :: none :: none :: none :: none :: none :: none :: none :: none :: none :: none :: none :: none :: []) (by simp [s0, eo, isInn]) ?_
  obtain ⟨z, c1, e1, d1, z0, z1⟩ := draw2 (p := 60) (q := 981) (N := 981) (s0 := s0) (r := none :: none :: none :: none :: none :: none :: none :: none :: none :: none :: none :: none :: none :: none :: none :: none :: none :: none :: none :: none :: none :: none :: none :: none :: none :: none :: []) d0 (by omega) (by decide) (by decide) (by decide)
  refine Tr.seq (ρ1 := s0 :: some (.mut true c1) :: some (.dat (.int (20 + z))) :: some (.mut true (.lst [])) :: none :: none :: none :: none :: none :: none :: none :: none :: none :: none :: none :: none :: none :: none :: none :: none :: none :: none :: none :: none :: none :: none :: none :: none :: []) (by simp [-v_callM, e1, isInn, lstF]) ?_
  obtain ⟨a, b, c2, e2, d2, a1, ab, b2⟩ := body_k (s0 := s0) (x2 := some (.dat (.int (20 + z)))) (acc := []) (k := .int 0) (rest := none :: none :: none :: none :: none :: none :: none :: none :: none :: none :: none :: none :: none :: none :: none :: none :: none :: none :: none :: none :: none :: none :: []) d1 (by omega) (by decide)
  obtain ⟨c, d, c3, e3, d3, cc1, cd, dd2⟩ := body_k (s0 := s0) (x2 := some (.dat (.int (20 + z)))) (acc := [] ++ [.tuple [.int a, .int b]]) (k := .int 1) (rest := none :: none :: none :: none :: none :: none :: none :: none :: none :: none :: none :: none :: none :: none :: none :: none :: none :: none :: none :: none :: none :: none :: []) d2 (by omega) (by simp)
  clear_value s0
  generalize hw : 20 + z = w at *
  have B : Bds w a b c d := ⟨by omega, by omega, a1, ab, b2, cc1, cd, dd2⟩
  refine Tr.seq (forS_two (x := .int 0) (y := .int 1) (by simp [rng_two]; rfl) rfl e2 rfl e3) ?_
  refine Tr.seq (ρ1 := s0 :: some (.mut true c3) :: some (.dat (.int w)) :: some (.mut true (.lst [.tuple [.int a, .int b], .tuple [.int c, .int d]])) :: none :: none :: some (.dat (brd w a b c d)) :: none :: none :: none :: none :: none :: none :: none :: none :: none :: none :: none :: none :: none :: none :: none :: none :: none :: none :: none :: none :: none :: []) (by simp [isInn, tupD, brd, ix_l1]) ?_
  generalize some (Sl.mut true (.lst [PyData.tuple [.int a, .int b], .tuple [.int c, .int d]])) = x3
  refine Tr.seq (ρ1 := s0 :: some (.mut true c3) :: some (.dat (.int w)) :: x3 :: none :: none :: some (.dat (brd w a b c d)) :: some (.dat (.tuple [.int a, .int b])) :: some (.dat (.tuple [.int c, .int d])) :: none :: none :: none :: none :: none :: none :: none :: none :: none :: none :: none :: none :: none :: none :: none :: none :: none :: none :: none :: []) (by simp [isInn, brd]) ?_
  refine Tr.seq (ρ1 := s0 :: some (.mut true c3) :: some (.dat (.int w)) :: x3 :: none :: none :: some (.dat (brd w a b c d)) :: some (.dat (.tuple [.int a, .int b])) :: some (.dat (.tuple [.int c, .int d])) :: some (.dat (.list (wrongs w a b c d))) :: none :: none :: none :: none :: none :: none :: none :: none :: none :: none :: none :: none :: none :: none :: none :: none :: none :: none :: []) ?_ ?_
  · have e1 : slD (brd w a b c d) none (some 2) = some (.tuple [.int w, .tuple [.int a, .int b]]) := rfl
    have e2 : lstOf (brd w a b c d) = some (.lst [.int w, .tuple [.int a, .int b], .tuple [.int c, .int d]]) := rfl
    have e3 : addD (brd w a b c d) (.tuple [.int 0]) = some (.tuple [.int w, .tuple [.int a, .int b], .tuple [.int c, .int d], .int 0]) := rfl
    have e4 : ∀ x y : D, lstOf (.tuple [x, y]) = some (.lst [x, y]) := fun _ _ => rfl
    simp [e1, e2, e3, e4, tupD, lstF, cellD, isInn, wrongs]
  refine Tr.seq (ρ1 := s0 :: some (.mut true c3) :: some (.dat (.int w)) :: x3 :: none :: none :: some (.dat (brd w a b c d)) :: some (.dat (.tuple [.int a, .int b])) :: some (.dat (.tuple [.int c, .int d])) :: some (.dat (.list (wrongs w a b c d))) :: none :: none :: none :: none :: none :: none :: none :: none :: none :: none :: none :: none :: none :: none :: none :: none :: none :: none :: []) ?_ ?_
  · have e1 := board_eq (brd w a b c d) rfl
    rw [board_t B] at e1
    have e2 := board_eq (.tuple [.int 1000, .tuple [.int 200, .int 200], .tuple [.int 1, .int 200]]) rfl
    rw [show isBoard (.tuple [.int 1000, .tuple [.int 200, .int 200], .tuple [.int 1, .int 200]]) = true from rfl] at e2
    have g := lc_nil (ms := M.items (varM 9)) (g := tgN 24) (mt := M.asB (M.bin nisD (callM F_is_dovetail_board (M.cdat (varM 24) (M.ret []))) (M.ret (.bool false)))) (me := varM 24) (vs := [24]) (b := fun _ => false)
      (ρ := s0 :: some (.mut true c3) :: some (.dat (.int w)) :: x3 :: none :: none :: some (.dat (brd w a b c d)) :: some (.dat (.tuple [.int a, .int b])) :: some (.dat (.tuple [.int c, .int d])) :: some (.dat (.list (wrongs w a b c d))) :: none :: none :: none :: none :: none :: none :: none :: none :: none :: none :: none :: none :: none :: none :: none :: none :: none :: none :: [])
      (ds := wrongs w a b c d) (by simp; rfl) rfl rfl (fun v hv => turn1 rfl rfl (by
        obtain ⟨f1, f2⟩ := wrongs_f v hv
        have e := board_eq v f2
        rw [f1] at e
        simp [e]) (fun h => nomatch h) rfl rfl) (fun _ _ => rfl) (by simp [wrongs])
    simp [e1, e2, g, tupD, lstF, cellD, ne_nil_nil]
  generalize some (Sl.dat (.list (wrongs w a b c d))) = x9
  refine Tr.seq (ρ1 := s0 :: some (.mut true c3) :: some (.dat (.int w)) :: x3 :: none :: none :: some (.dat (brd w a b c d)) :: some (.dat (.tuple [.int a, .int b])) :: some (.dat (.tuple [.int c, .int d])) :: x9 :: some (.dat (.list ((rows w a b c d).map tupI))) :: none :: none :: none :: none :: none :: none :: none :: none :: none :: none :: none :: none :: none :: none :: none :: none :: none :: []) (by simp [lawc_eq B, isInn]) ?_
  have h3 := rows_is3 B
  refine Tr.seq (ρ1 := stB s0 x3 x9 c3 w a b c d none none none none none none none none none none none none none none none none none) (for_const (ds := [.bool true, .bool false]) (by simp [tupD]; rfl) ?_) ?_
  · intro x hx
    obtain ⟨fine, rfl⟩ : ∃ f, x = .bool f := by
      simp only [List.mem_cons, List.not_mem_nil, or_false] at hx
      rcases hx with rfl | rfl
      · exact ⟨_, rfl⟩
      · exact ⟨_, rfl⟩
    have f3 : Is3 (fr w a b c d fine) := h3.filter _
    have fl := fr_len B fine
    refine ⟨stB s0 x3 x9 c3 w a b c d (some (.dat (.bool fine))) none none none none none none none none none none none none none none none none, by simp [stB, isInn], ?_⟩
    refine (seq_nx (ρ1 := stB s0 x3 x9 c3 w a b c d (some (.dat (.bool fine))) (some (.dat (.list ((fr w a b c d fine).map tupI)))) (some (.dat (.tuple ((fr w a b c d fine).map tupI)))) (some (.dat (.list (((fr w a b c d fine).map mark).map tupI)))) (some (.dat (toldD (fr w a b c d fine)))) none none none none none none none none none none none none) ?_).trans (by simp [stB, forget, isInn])
    refine (seq_nx (ρ1 := stB s0 x3 x9 c3 w a b c d (some (.dat (.bool fine))) (some (.dat (.list ((fr w a b c d fine).map tupI)))) none none none none none none none none none none none none none none none) ?_).trans ?_
    · have g := lc_run (ms := M.items (varM 10)) (g := tgN 26) (mt := M.or (M.notB (M.tru (pkM 11))) (M.asB (M.bin leD (M.bin mulID (M.ret (.int 2)) (M.bin ixD (varM 26) (M.ret (.int 2)))) (M.bin ixD (varM 26) (M.ret (.int 1)))))) (me := varM 26) (vs := [26]) (b := fineD fine) (y := id)
        (ρ := stB s0 x3 x9 c3 w a b c d (some (.dat (.bool fine))) none none none none none none none none none none none none none none none none)
        (ρ1 := stB s0 x3 x9 c3 w a b c d (some (.dat (.bool fine))) none none none none none none none none none none none none none none none none) (ds := (rows w a b c d).map tupI) (by simp [stB]) rfl rfl (fun v hv => by
          obtain ⟨r, hr, rfl⟩ := List.mem_map.mp hv
          obtain ⟨m, t, p, rfl, hc⟩ := (mem_rows B).mp hr
          obtain ⟨k1, k2, k3, k4, k5, k6, k7, k8⟩ := hc
          have em : mulID (.int 2) (.int p) = some (.int (2 * p)) := mul_ok (a := 20) (b := 20) (by decide) (by omega) (by decide) (by decide) (by decide)
          refine turn1 (ρ1 := stB s0 x3 x9 c3 w a b c d (some (.dat (.bool fine))) none none none none none none none none none none none none none none (some (.dat (tupI [m, t, p]))) none) rfl rfl ?_ (fun _ => by simp [stB]) rfl rfl
          have i1 : ixD (tupI [m, t, p]) (.int 1) = some (.int t) := ix_t1 _ _ _
          have i2 : ixD (tupI [m, t, p]) (.int 2) = some (.int p) := ix_t2 _ _ _ _
          cases fine <;> simp [stB, i1, i2, em, fineD, fineB, tupI]) (by have := rows_len B; simp; omega)
      rw [filter_rows h3] at g
      simp only [w_seq, w_setF, w_of, g]
      simp [stB, isInn, frzR, cellD, fr]
    refine (seq_nx (ρ1 := stB s0 x3 x9 c3 w a b c d (some (.dat (.bool fine))) (some (.dat (.list ((fr w a b c d fine).map tupI)))) (some (.dat (.tuple ((fr w a b c d fine).map tupI)))) none none none none none none none none none none none none none none) ?_).trans ?_
    · have e := corn_eq B fine
      simp [stB, e, isInn, fr]
    refine (seq_nx (ρ1 := stB s0 x3 x9 c3 w a b c d (some (.dat (.bool fine))) (some (.dat (.list ((fr w a b c d fine).map tupI)))) (some (.dat (.tuple ((fr w a b c d fine).map tupI)))) (some (.dat (.list (((fr w a b c d fine).map mark).map tupI)))) none none none none none none none none none none none none none) ?_).trans ?_
    · have g := lc_run (ms := M.items (varM 12)) (g := tgT 3 (tgCons (tgN 20) (tgCons (tgN 21) (tgCons (tgN 22) tgNil)))) (mt := M.yes) (me := M.tup (M.cons (varM 20) (M.cons (M.un negD (pkM 21)) (M.cons (varM 22) (M.ret []))))) (vs := [20, 21, 22]) (b := fun _ => true) (y := markD)
        (ρ := stB s0 x3 x9 c3 w a b c d (some (.dat (.bool fine))) (some (.dat (.list ((fr w a b c d fine).map tupI)))) (some (.dat (.tuple ((fr w a b c d fine).map tupI)))) none none none none none none none none none none none none none none)
        (ρ1 := stB s0 x3 x9 c3 w a b c d (some (.dat (.bool fine))) (some (.dat (.list ((fr w a b c d fine).map tupI)))) (some (.dat (.tuple ((fr w a b c d fine).map tupI)))) none none none none none none none none none none none none none none) (ds := (fr w a b c d fine).map tupI) (by simp [stB]) rfl rfl (fun v hv => by
          obtain ⟨r, hr, rfl⟩ := List.mem_map.mp hv
          obtain ⟨m, t, p, rfl⟩ := f3 r hr
          exact turnG (ρ1 := stB s0 x3 x9 c3 w a b c d (some (.dat (.bool fine))) (some (.dat (.list ((fr w a b c d fine).map tupI)))) (some (.dat (.tuple ((fr w a b c d fine).map tupI)))) none none none none none none (some (.dat (.int m))) (some (.dat (.int t))) (some (.dat (.int p))) none none none none none) (by simp [stB, tupI, isInn]) rfl (fun _ => by simp [stB, tupD, markD, tupI]) rfl rfl) (by simp; omega)
      rw [mark_map f3] at g
      simp only [w_seq, w_setF, w_of, g]
      simp [stB, isInn, frzR, cellD]
    refine (seq_nx (ρ1 := stB s0 x3 x9 c3 w a b c d (some (.dat (.bool fine))) (some (.dat (.list ((fr w a b c d fine).map tupI)))) (some (.dat (.tuple ((fr w a b c d fine).map tupI)))) (some (.dat (.list (((fr w a b c d fine).map mark).map tupI)))) (some (.dat (toldD (fr w a b c d fine)))) none none none none none none none none none none none none) ?_).trans ?_
    · simp only [w_asg, w_of]
      rw [told_run f3 (by simp [stB])]
      simp [stB, isInn]
    have g := lc_nil (ms := M.items (varM 13)) (g := tgN 26) (mt := M.or (M.notB (M.tru (callM F__law_int (M.cdat (M.bin ixD (varM 26) (M.ret (.int 0))) (M.ret []))))) (M.or (M.notB (M.tru (callM F__law_int (M.cdat (M.bin ixD (varM 26) (M.ret (.int 1))) (M.ret []))))) (M.notB (M.tru (callM F__law_int (M.cdat (M.bin ixD (varM 26) (M.ret (.int 2))) (M.ret []))))))) (me := varM 26) (vs := [26]) (b := fun _ => false)
      (ρ := stB s0 x3 x9 c3 w a b c d (some (.dat (.bool fine))) (some (.dat (.list ((fr w a b c d fine).map tupI)))) (some (.dat (.tuple ((fr w a b c d fine).map tupI)))) (some (.dat (.list (((fr w a b c d fine).map mark).map tupI)))) (some (.dat (toldD (fr w a b c d fine)))) none none none none none none none none none none none none)
      (ρ1 := stB s0 x3 x9 c3 w a b c d (some (.dat (.bool fine))) (some (.dat (.list ((fr w a b c d fine).map tupI)))) (some (.dat (.tuple ((fr w a b c d fine).map tupI)))) (some (.dat (.list (((fr w a b c d fine).map mark).map tupI)))) (some (.dat (toldD (fr w a b c d fine)))) none none none none none none none none none none none none) (ds := (fr w a b c d fine).map tupI) (by simp [stB]) rfl rfl (fun v hv => by
        obtain ⟨r, hr, rfl⟩ := List.mem_map.mp hv
        obtain ⟨m, t, p, rfl⟩ := f3 r hr
        refine turn1 rfl rfl ?_ (fun h => nomatch h) rfl rfl
        have i0 : ixD (tupI [m, t, p]) (.int 0) = some (.int m) := ix_t0 _ _
        have i1 : ixD (tupI [m, t, p]) (.int 1) = some (.int t) := ix_t1 _ _ _
        have i2 : ixD (tupI [m, t, p]) (.int 2) = some (.int p) := ix_t2 _ _ _ _
        have q := fun i => int_eq (.int i) rfl
        simp [stB, i0, i1, i2, q, isI]) (fun _ _ => rfl) (by simp; omega)
    have n1 := neD_self (okD_rows 58 (fr w a b c d fine)).2
    have n2 := neD_self (okD_told (fr w a b c d fine))
    have et := told_eq B fine
    have g2 : (M.cell (M.lc (M.items (varM 13)) (tgN 26) (M.or (M.notB (M.tru (callM F__law_int (M.cdat (M.bin ixD (varM 26) (M.ret (.int 0))) (M.ret []))))) (M.or (M.notB (M.tru (callM F__law_int (M.cdat (M.bin ixD (varM 26) (M.ret (.int 1))) (M.ret []))))) (M.notB (M.tru (callM F__law_int (M.cdat (M.bin ixD (varM 26) (M.ret (.int 2))) (M.ret []))))))) (varM 26) [26])) (stB s0 x3 x9 c3 w a b c d (some (.dat (.bool fine))) (some (.dat (.list ((fr w a b c d fine).map tupI)))) (some (.dat (.tuple ((fr w a b c d fine).map tupI)))) (some (.dat (.list (((fr w a b c d fine).map mark).map tupI)))) (some (.dat (toldD (fr w a b c d fine)))) none none none none none none none none none none none none) = some (.val (.list []) (stB s0 x3 x9 c3 w a b c d (some (.dat (.bool fine))) (some (.dat (.list ((fr w a b c d fine).map tupI)))) (some (.dat (.tuple ((fr w a b c d fine).map tupI)))) (some (.dat (.list (((fr w a b c d fine).map mark).map tupI)))) (some (.dat (toldD (fr w a b c d fine)))) none none none none none none none none none none none none)) := by
      simp only [v_cell, v_bind, g]
      rfl
    unfold stB at g2 ⊢
    simp [-v_cell, -List.map_map, g2, tupOf, n1, n2, et, cell_nil, ne_nil_nil]
  refine Tr.seq (ρ1 := stB s0 x3 x9 c3 w a b c d none none none none none (some (.dat (.list ((fits w a b c d).map PyData.int)))) none none none none none none none none none none none) ?_ ?_
  · have g1 := lc_run (ms := M.items (varM 10)) (g := tgN 26) (mt := M.yes) (me := M.tup (M.cons (M.bin ixD (varM 26) (M.ret (.int 0))) (M.cons (M.ret (.int 1)) (M.ret [])))) (vs := [26]) (b := fun _ => true) (y := pr1D)
      (ρ := stB s0 x3 x9 c3 w a b c d none none none none none none none none none none none none none none none none none) (ρ1 := stB s0 x3 x9 c3 w a b c d none none none none none none none none none none none none none none none none none) (ds := (rows w a b c d).map tupI) (by simp [stB]) rfl rfl (fun v hv => by
        obtain ⟨r, hr, rfl⟩ := List.mem_map.mp hv
        obtain ⟨m, t, p, rfl⟩ := h3 r hr
        have i0 : ixD (tupI [m, t, p]) (.int 0) = some (.int m) := ix_t0 _ _
        exact turn1 rfl rfl rfl (fun _ => by simp [stB, i0, tupD, pr1D, tupI]) rfl rfl) (by have := rows_len B; simp; omega)
    rw [pr1_map h3] at g1
    obtain ⟨js, kvs, k1, k2, k3, k4⟩ := dict_rows (rows w a b c d)
    have hjl : js.length < 64 := by
      rw [nodup_len k3 k4]
      exact sI_few B fun r hr => hr
    have g2 := lc_run (ms := M.keysF (M.unF dictOf (M.cell (M.lc (M.items (varM 10)) (tgN 26) (M.yes) (M.tup (M.cons (M.bin ixD (varM 26) (M.ret (.int 0))) (M.cons (M.ret (.int 1)) (M.ret [])))) [26])))) (g := tgN 20) (mt := M.yes) (me := varM 20) (vs := [20]) (b := fun _ => true) (y := id)
      (ρ := stB s0 x3 x9 c3 w a b c d none none none none none none none none none none none none none none none none none) (ρ1 := stB s0 x3 x9 c3 w a b c d none none none none none none none none none none none none none none none none none) (ds := js.map PyData.int) (by simp only [v_keysF, v_unF, v_cell, v_bind, g1, v_ret, cellD, v_lift, k1, k2]) rfl rfl (fun v hv => turn1 rfl rfl rfl (fun _ => by simp [stB]) rfl rfl) (by simp; omega)
    rw [List.filter_eq_self.mpr fun _ _ => rfl, List.map_id] at g2
    have e3 := sortF_ints js k3 (by omega)
    rw [sI_same k4] at e3
    simp only [w_asg, w_of, v_cell, v_unF, v_bind, g2, v_ret, cellD, v_lift, e3]
    simp [stB, isInn, fits]
  refine Tr.seq (ρ1 := stB s0 x3 x9 c3 w a b c d none none none none none (some (.dat (.list ((fits w a b c d).map PyData.int)))) none none none none none none none none none none none) ?_ ?_
  · have e1 := tails_eq B
    have e2 := neD_self (okD_ints 59 (fits w a b c d)).2
    simp [stB, e1, e2, tupOf]
  refine Tr.seq (ρ1 := stB s0 x3 x9 c3 w a b c d none none none none none (some (.dat (.list ((fits w a b c d).map PyData.int)))) (some (.dat (.list ((evens c d).map PyData.int)))) none none none none none none none none none none) ?_ ?_
  · have g := lc_run (ms := M.rng2 (M.cons (M.bin ixD (varM 8) (M.ret (.int 0))) (M.cons (M.bin addD (M.bin ixD (varM 8) (M.ret (.int 1))) (M.ret (.int 1))) (M.ret [])))) (g := tgN 22) (mt := M.asB (M.bin eqD (M.bin modD (M.un intOfD (pkM 22)) (M.ret (.int 2))) (M.ret (.int 0)))) (me := varM 22) (vs := [22]) (b := onI fun p => decide (p % 2 = 0)) (y := id)
      (ρ := stB s0 x3 x9 c3 w a b c d none none none none none (some (.dat (.list ((fits w a b c d).map PyData.int)))) none none none none none none none none none none none) (ρ1 := stB s0 x3 x9 c3 w a b c d none none none none none (some (.dat (.list ((fits w a b c d).map PyData.int)))) none none none none none none none none none none none) (ds := (rngI c (d + 1)).map PyData.int)
      (by simp [stB, rng2_int (okR_of (i := c) (by omega) (by omega)) (okR_of (i := d + 1) (by omega) (by omega))]) rfl rfl (fun v hv => by
        obtain ⟨p, hp, rfl⟩ := List.mem_map.mp hv
        exact turn1 rfl rfl (by simp [stB, modD_int (show (0 : Int) < 2 by decide), onI]) (fun _ => by simp [stB]) rfl rfl) (by simp [rngI_len]; omega)
    rw [filt_ints] at g
    simp only [w_asg, w_of, v_cell, v_bind, g, v_ret, cellD]
    simp [stB, isInn, evens]
  obtain ⟨x15, s15⟩ : ∃ x15 : Option Sl, (S.ife (M.and (M.asB (M.bin ltD (M.bin ixD (varM 7) (M.ret (.int 0))) (M.bin ixD (varM 7) (M.ret (.int 1))))) (M.asB (M.bin neD (varM 17) (M.cell (M.lst (M.ret [])))))) (S.seq (S.seq (S.setF (M.lc (M.rng2 (M.cons (M.ret (.int 1)) (M.cons (M.bin addD (varM 2) (M.ret (.int 1))) (M.ret [])))) (tgN 20) (M.and (M.asB (M.bin eqD (M.bin modD (M.un intOfD (pkM 2)) (pkM 20)) (M.ret (.int 0)))) (M.asB (M.chain leD leD (M.bin addD (M.bin ixD (varM 7) (M.ret (.int 0))) (M.bin ixD (varM 17) (M.ret (.int 0)))) (M.bin fdivD (varM 2) (pkM 20)) (M.bin addD (M.bin ixD (varM 7) (M.ret (.int 1))) (M.bin ixD (varM 17) (M.un negD (M.ret (.int 1)))))))) (varM 20) [20]) 15) (S.frz 15))
    (S.ife (M.asB (M.bin neD (varM 15) (pkM 16))) (S.ret (M.ret (.bool false))) S.nx)) S.nx) (stB s0 x3 x9 c3 w a b c d none none none none none (some (.dat (.list ((fits w a b c d).map PyData.int)))) (some (.dat (.list ((evens c d).map PyData.int)))) none none none none none none none none none none) = some (.nx (stB s0 x3 x9 c3 w a b c d none none none none x15 (some (.dat (.list ((fits w a b c d).map PyData.int)))) (some (.dat (.list ((evens c d).map PyData.int)))) none none none none none none none none none none)) := by
    have en := neD_ints (evens c d) []
    rw [List.map_nil] at en
    by_cases hab : a < b
    · by_cases he : evens c d = []
      · exact ⟨none, by simp [-v_cell, stB, hab, cell_nil, ne_nil_nil, he]⟩
      · refine ⟨some (.dat (.list ((fits w a b c d).map PyData.int))), ?_⟩
        obtain ⟨e0, e1, i0, i1, m0, m1, mm⟩ := evens_ends he
        have q0 := evens_mem.mp m0
        have q1 := evens_mem.mp m1
        have hdf := due_fits B hab m0 m1 mm
        have g := lc_run (ms := M.rng2 (M.cons (M.ret (.int 1)) (M.cons (M.bin addD (varM 2) (M.ret (.int 1))) (M.ret [])))) (g := tgN 20) (mt := M.and (M.asB (M.bin eqD (M.bin modD (M.un intOfD (pkM 2)) (pkM 20)) (M.ret (.int 0)))) (M.asB (M.chain leD leD (M.bin addD (M.bin ixD (varM 7) (M.ret (.int 0))) (M.bin ixD (varM 17) (M.ret (.int 0)))) (M.bin fdivD (varM 2) (pkM 20)) (M.bin addD (M.bin ixD (varM 7) (M.ret (.int 1))) (M.bin ixD (varM 17) (M.un negD (M.ret (.int 1)))))))) (me := varM 20) (vs := [20]) (b := onI fun m => decide (w % m = 0) && (decide (a + e0 ≤ w / m) && decide (w / m ≤ b + e1))) (y := id)
          (ρ := stB s0 x3 x9 c3 w a b c d none none none none none (some (.dat (.list ((fits w a b c d).map PyData.int)))) (some (.dat (.list ((evens c d).map PyData.int)))) none none none none none none none none none none) (ρ1 := stB s0 x3 x9 c3 w a b c d none none none none none (some (.dat (.list ((fits w a b c d).map PyData.int)))) (some (.dat (.list ((evens c d).map PyData.int)))) none none none none none none none none none none) (ds := (rngI 1 (w + 1)).map PyData.int)
          (by simp [stB, rng2_int (okR_of (i := 1) (by omega) (by omega)) (okR_of (i := w + 1) (by omega) (by omega))]) rfl rfl (fun v hv => by
            obtain ⟨m, hm, rfl⟩ := List.mem_map.mp hv
            have hm := mem_rngI.mp hm
            have hs : (0 : Int) < m := by omega
            have ediv : fdivD (.int w) (.int m) = some (.int (w / m)) := fdivD_int hs (by have := log2_le (n := m.natAbs) (k := 20) (by omega) (by decide); omega)
            refine turn1 rfl rfl ?_ (fun _ => by simp [stB]) rfl rfl
            by_cases z1 : w % m = 0
            · by_cases z2 : a + e0 ≤ w / m
              · simp [stB, modD_int hs, z1, i0, i1, ediv, z2, onI]
              · simp [stB, modD_int hs, z1, i0, i1, ediv, z2, onI]
            · simp [stB, modD_int hs, z1, onI]) (by simp [rngI_len]; omega)
        rw [filt_ints] at g
        have hd2 : (rngI 1 (w + 1)).filter (fun m => decide (w % m = 0) && (decide (a + e0 ≤ w / m) && decide (w / m ≤ b + e1))) = fits w a b c d := hdf
        rw [hd2] at g
        have nf := neD_ints (fits w a b c d) (fits w a b c d)
        have hc : (M.and (M.asB (M.bin ltD (M.bin ixD (varM 7) (M.ret (.int 0))) (M.bin ixD (varM 7) (M.ret (.int 1))))) (M.asB (M.bin neD (varM 17) (M.cell (M.lst (M.ret [])))))) (stB s0 x3 x9 c3 w a b c d none none none none none (some (.dat (.list ((fits w a b c d).map PyData.int)))) (some (.dat (.list ((evens c d).map PyData.int)))) none none none none none none none none none none) = some (.val true (stB s0 x3 x9 c3 w a b c d none none none none none (some (.dat (.list ((fits w a b c d).map PyData.int)))) (some (.dat (.list ((evens c d).map PyData.int)))) none none none none none none none none none none)) := by
          simp [-v_cell, stB, hab, cell_nil, en, he]
        simp only [w_ife, w_of, hc, if_true, w_seq, w_setF, g]
        simp [stB, isInn, frzR, cellD, nf]
    · exact ⟨none, by simp [stB, hab]⟩
  refine Tr.seq s15 ?_
  obtain ⟨x18, s18⟩ : ∃ x18 : Option Sl, (S.ife (M.and (M.asB (M.bin ltD (varM 2) (M.ret (.int 501)))) (M.asB (M.bin ltD (M.un maxOf (M.bin addD (varM 7) (pkM 8))) (M.ret (.int 101))))) (S.seq (S.asg (M.tup (M.cons (M.bin mulID (M.ret (.int 2)) (pkM 2)) (M.cons (M.tup (M.cons (M.bin mulID (M.ret (.int 2)) (M.bin ixD (varM 7) (M.ret (.int 0)))) (M.cons (M.bin mulID (M.ret (.int 2)) (M.bin ixD (varM 7) (M.ret (.int 1)))) (M.ret [])))) (M.cons (M.tup (M.cons (M.bin mulID (M.ret (.int 2)) (M.bin ixD (varM 8) (M.ret (.int 0)))) (M.cons (M.bin mulID (M.ret (.int 2)) (M.bin ixD (varM 8) (M.ret (.int 1)))) (M.ret [])))) (M.ret []))))) (tgN 18))
    (S.ife (M.asB (M.bin neD (M.cell (M.lc (M.items (varM 10)) (tgN 26) (M.asB (M.bin nisD (callM F_is_corner (M.cdat (varM 18) (M.cdat (M.tup (M.cons (M.bin ixD (varM 26) (M.ret (.int 0))) (M.cons (M.bin mulID (M.ret (.int 2)) (M.bin ixD (varM 26) (M.ret (.int 1)))) (M.cons (M.bin mulID (M.ret (.int 2)) (M.bin ixD (varM 26) (M.ret (.int 2)))) (M.ret []))))) (M.ret [])))) (M.ret (.bool true)))) (varM 26) [26])) (M.cell (M.lst (M.ret []))))) (S.ret (M.ret (.bool false))) S.nx)) S.nx) (stB s0 x3 x9 c3 w a b c d none none none none x15 (some (.dat (.list ((fits w a b c d).map PyData.int)))) (some (.dat (.list ((evens c d).map PyData.int)))) none none none none none none none none none none) = some (.nx (stB s0 x3 x9 c3 w a b c d none none none none x15 (some (.dat (.list ((fits w a b c d).map PyData.int)))) (some (.dat (.list ((evens c d).map PyData.int)))) x18 none none none none none none none none none)) := by
    obtain ⟨mx, emx⟩ := max4 a b c d
    have ea : addD (.tuple [.int a, .int b]) (.tuple [.int c, .int d]) = some (.tuple [.int a, .int b, .int c, .int d]) := rfl
    by_cases h1 : w < 501
    · by_cases h2 : mx < 101
      · refine ⟨some (.dat (brd (2 * w) (2 * a) (2 * b) (2 * c) (2 * d))), ?_⟩
        have em : ∀ i : Int, 0 ≤ i → i ≤ 1000 → mulID (.int 2) (.int i) = some (.int (2 * i)) := fun i h0 h1 => mul_ok (a := 20) (b := 20) (by decide) (by omega) (by decide) (by decide) (by decide)
        have g := lc_nil (ms := M.items (varM 10)) (g := tgN 26) (mt := M.asB (M.bin nisD (callM F_is_corner (M.cdat (varM 18) (M.cdat (M.tup (M.cons (M.bin ixD (varM 26) (M.ret (.int 0))) (M.cons (M.bin mulID (M.ret (.int 2)) (M.bin ixD (varM 26) (M.ret (.int 1)))) (M.cons (M.bin mulID (M.ret (.int 2)) (M.bin ixD (varM 26) (M.ret (.int 2)))) (M.ret []))))) (M.ret [])))) (M.ret (.bool true)))) (me := varM 26) (vs := [26]) (b := fun _ => false)
          (ρ := stB s0 x3 x9 c3 w a b c d none none none none x15 (some (.dat (.list ((fits w a b c d).map PyData.int)))) (some (.dat (.list ((evens c d).map PyData.int)))) (some (.dat (brd (2 * w) (2 * a) (2 * b) (2 * c) (2 * d)))) none none none none none none none none none)
          (ρ1 := stB s0 x3 x9 c3 w a b c d none none none none x15 (some (.dat (.list ((fits w a b c d).map PyData.int)))) (some (.dat (.list ((evens c d).map PyData.int)))) (some (.dat (brd (2 * w) (2 * a) (2 * b) (2 * c) (2 * d)))) none none none none none none none none none) (ds := (rows w a b c d).map tupI) (by simp [stB]) rfl rfl (fun v hv => by
            obtain ⟨r, hr, rfl⟩ := List.mem_map.mp hv
            obtain ⟨m, t, p, rfl, hc⟩ := (mem_rows B).mp hr
            obtain ⟨k1, k2, k3, k4, k5, k6, k7, k8⟩ := id hc
            have i0 : ixD (tupI [m, t, p]) (.int 0) = some (.int m) := ix_t0 _ _
            have i1 : ixD (tupI [m, t, p]) (.int 1) = some (.int t) := ix_t1 _ _ _
            have i2 : ixD (tupI [m, t, p]) (.int 2) = some (.int p) := ix_t2 _ _ _ _
            have ec := cor_eq (w := 2 * w) (a := 2 * a) (b := 2 * b) (c := 2 * c) (d := 2 * d) (by omega) (by omega) (by omega) (by omega) (by omega) (tupI [m, 2 * t, 2 * p]) (okD_tupI 59 _)
            rw [isCor_twice hc] at ec
            have et : (PyData.tuple [.int m, .int (2 * t), .int (2 * p)]) = tupI [m, 2 * t, 2 * p] := rfl
            refine turn1 rfl rfl ?_ (fun h => nomatch h) rfl rfl
            simp [stB, i0, i1, i2, em t (by omega) (by omega), em p (by omega) (by omega), tupD, et, ec]) (fun _ _ => rfl) (by have := rows_len B; simp; omega)
        have hc : (M.and (M.asB (M.bin ltD (varM 2) (M.ret (.int 501)))) (M.asB (M.bin ltD (M.un maxOf (M.bin addD (varM 7) (pkM 8))) (M.ret (.int 101))))) (stB s0 x3 x9 c3 w a b c d none none none none x15 (some (.dat (.list ((fits w a b c d).map PyData.int)))) (some (.dat (.list ((evens c d).map PyData.int)))) none none none none none none none none none none) = some (.val true (stB s0 x3 x9 c3 w a b c d none none none none x15 (some (.dat (.list ((fits w a b c d).map PyData.int)))) (some (.dat (.list ((evens c d).map PyData.int)))) none none none none none none none none none none)) := by
          simp [stB, h1, ea, emx, h2]
        simp only [w_ife, w_of, hc, if_true]
        refine (seq_nx (ρ1 := stB s0 x3 x9 c3 w a b c d none none none none x15 (some (.dat (.list ((fits w a b c d).map PyData.int)))) (some (.dat (.list ((evens c d).map PyData.int)))) (some (.dat (brd (2 * w) (2 * a) (2 * b) (2 * c) (2 * d)))) none none none none none none none none none) ?_).trans ?_
        · simp [stB, em w (by omega) (by omega), em a (by omega) (by omega), em b (by omega) (by omega), em c (by omega) (by omega), em d (by omega) (by omega), tupD, isInn, brd]
        · simp only [w_ife, w_of, v_asB, v_bin, v_cell, v_bind, g, v_ret, cellD, v_lst, lstF, List.length_nil, Nat.zero_le, if_true, v_lift, ne_nil_nil, bool_b]
          rfl
      · exact ⟨none, by simp [stB, h1, ea, emx, h2]⟩
    · exact ⟨none, by simp [stB, h1]⟩
  refine Tr.seq s18 ?_
  generalize hx16 : some (Sl.dat (.list ((fits w a b c d).map PyData.int))) = x16
  generalize hx17 : some (Sl.dat (.list ((evens c d).map PyData.int))) = x17
  obtain ⟨m, t, p, c4, s19⟩ : ∃ m t p c4, (S.asg (M.ife (M.asB (M.bin neD (varM 10) (M.cell (M.lst (M.ret []))))) (M.bin ixD (varM 10) (callM F__law_draw (M.cslot 1 (M.cdat (M.un lenD (pkM 10)) (M.ret []))))) (M.tup (M.cons (M.ret (.int 1)) (M.cons (M.bin ixD (varM 7) (M.ret (.int 0))) (M.cons (M.bin ixD (varM 8) (M.ret (.int 0))) (M.ret [])))))) (tgN 19)) (stB s0 x3 x9 c3 w a b c d none none none none x15 x16 x17 x18 none none none none none none none none none) = some (.nx (stB s0 x3 x9 c4 w a b c d none none none none x15 x16 x17 x18 (some (.dat (tupI [m, t, p]))) none none none none none none none none)) := by
    have en := @neD_nil (rows w a b c d)
    by_cases he : rows w a b c d = []
    · refine ⟨1, a, c, c3, ?_⟩
      simp [-v_cell, stB, he, cell_nil, ne_nil_nil, tupD, isInn, tupI]
    · have hl := rows_len B
      have hp : 0 < (rows w a b c d).length := List.length_pos_iff.mpr he
      have eb : (rows w a b c d).isEmpty = false := by cases h : rows w a b c d with
        | nil => exact absurd h he
        | cons _ _ => rfl
      rw [eb] at en
      obtain ⟨k, c4, e4, _, k0, k1⟩ := draw_sh (s0 := s0) (c := c3) (m := M.un lenD (pkM 10)) (size := ((rows w a b c d).length : Int)) (r := some (.dat (.int w)) :: x3 :: none :: none :: some (.dat (brd w a b c d)) :: some (.dat (.tuple [.int a, .int b])) :: some (.dat (.tuple [.int c, .int d])) :: x9 :: some (.dat (.list ((rows w a b c d).map tupI))) :: none :: none :: none :: none :: x15 :: x16 :: x17 :: x18 :: none :: none :: none :: none :: none :: none :: none :: none :: none :: []) (by simp) d3 (by omega) (by omega) (by omega)
      obtain ⟨j, rfl⟩ : ∃ j : Nat, k = j := ⟨k.toNat, by omega⟩
      have hj : j < (rows w a b c d).length := by omega
      obtain ⟨m, t, p, er⟩ := h3 ((rows w a b c d)[j]) (List.getElem_mem _)
      have ei : ixD (.list ((rows w a b c d).map tupI)) (.int (j : Int)) = some (tupI [m, t, p]) := L2.atI_nat (xs := (rows w a b c d).map tupI) (j := j) (by simp [hj, er])
      refine ⟨m, t, p, c4, ?_⟩
      simp [-v_cell, -v_callM, stB, en, cell_nil, e4, ei, isInn]
  refine Tr.seq s19 ?_
  refine Tr.seq (ρ1 := stB s0 x3 x9 c4 w a b c d none none none none x15 x16 x17 x18 (some (.dat (tupI [m, t, p]))) (some (.dat (.int m))) (some (.dat (.int t))) (some (.dat (.int p))) none none none none none) (by simp [stB, isInn, tupI]) ?_
  refine Tr.seq (ρ1 := stB s0 x3 x9 c4 w a b c d none none none none x15 x16 x17 x18 (some (.dat (tupI [m, t, p]))) (some (.dat (.int m))) (some (.dat (.int t))) (some (.dat (.int p))) (some (.dat (.list (vals m t p)))) none none none none) ?_ ?_
  · have e1 : slD (tupI [m, t, p]) none (some 2) = some (.tuple [.int m, .int t]) := rfl
    have e2 : lstOf (tupI [m, t, p]) = some (.lst [.int m, .int t, .int p]) := rfl
    have e3 : addD (tupI [m, t, p]) (.tuple [.int 0]) = some (.tuple [.int m, .int t, .int p, .int 0]) := rfl
    simp only [w_asg, w_of, v_cell, v_lst, v_cons, v_bind, v_tup, v_bin, v_un, v_unF, v_sl, v_part, v_ret, DL.v_var, v_pk, stB, List.getElem?_cons_succ, List.getElem?_cons_zero, addD_int, subD_int, neg_i, v_lift, tupD, lstF, List.length_cons, List.length_nil, Nat.reduceAdd, Nat.reduceLeDiff, if_true, e1, e2, e3, cellD, t_n]
    rfl
  refine Tr.seq (ρ1 := stB s0 x3 x9 c4 w a b c d none none none none x15 x16 x17 x18 (some (.dat (tupI [m, t, p]))) (some (.dat (.int m))) (some (.dat (.int t))) (some (.dat (.int p))) (some (.dat (.list (vals m t p)))) none none none none) (for_const (ds := vals m t p) (by simp [stB]) fun v hv => ?_) ⟨_, rfl, by simp [stB]⟩
  obtain ⟨ho, hl⟩ := vals_ok v hv
  refine ⟨stB s0 x3 x9 c4 w a b c d none none none none x15 x16 x17 x18 (some (.dat (tupI [m, t, p]))) (some (.dat (.int m))) (some (.dat (.int t))) (some (.dat (.int p))) (some (.dat (.list (vals m t p)))) (some (.dat v)) none none none, rfl, ?_⟩
  refine (seq_nx (ρ1 := stB s0 x3 x9 c4 w a b c d none none none none x15 x16 x17 x18 (some (.dat (tupI [m, t, p]))) (some (.dat (.int m))) (some (.dat (.int t))) (some (.dat (.int p))) (some (.dat (.list (vals m t p)))) (some (.dat v)) (some (.dat (.bool (goodV (rows w a b c d) v)))) none none) ?_).trans (by simp [stB, forget, isInn])
  refine (seq_nx (ρ1 := stB s0 x3 x9 c4 w a b c d none none none none x15 x16 x17 x18 (some (.dat (tupI [m, t, p]))) (some (.dat (.int m))) (some (.dat (.int t))) (some (.dat (.int p))) (some (.dat (.list (vals m t p)))) (some (.dat v)) (some (.dat (.bool (goodV (rows w a b c d) v)))) none none) ?_).trans ?_
  · simp only [w_asg, w_of]
    rw [good_run (R := rows w a b c d) ho hl rfl rfl rfl]
    rfl
  · have ec := cor_eq (w := w) (a := a) (b := b) (c := c) (d := d) (by omega) (by omega) (by omega) (by omega) (by omega) v ho
    rw [isCor_good B v] at ec
    have es := same_eq (goodV (rows w a b c d) v) (goodV (rows w a b c d) v)
    rw [show (goodV (rows w a b c d) v == goodV (rows w a b c d) v) = true by simp] at es
    simp [stB, ec, es]
theorem plain (ns : List Int) (hl : ns.length ≤ 63) (hb : ∀ z ∈ ns, Builtin.Int.intBits z ≤ 1048576) : F_law [.dat (.list (ns.map PyData.int))] = some (.ret (.bool true) []) := by
  obtain ⟨ρ', e, o⟩ := law_tr ns hl
  refine run_ret e ?_ ⟨rfl, by decide⟩
  cases ρ' with
  | nil => exact absurd rfl o
  | cons s ρ => rw [outs_d, outs_n]
end K95
open PySem PySem.W PyProof.Rows
set_option maxHeartbeats 0 in
theorem PySem.Challenge.cw_sawheld_k95_whole_corners_of_tails_holds : PySem.Challenge.rw_sawheld_k95_whole_corners_of_tails.Holds := by
  w_on; o_law; k_head; (case hw => w_witness2)
  k_fill
  refine DL.walk_all (l := PySem.Challenge.rw_sawheld_k95_whole_corners_of_tails) (n := 63) (k := 5) (x := "script") (CX := fun _ => L2.CX0) rfl (by decide) rfl ⟨rfl, by decide, by decide⟩ (fun w h Y => PySem.W.kIn_of Y) ?F (fun _ _ _ _ _ h => h)
  case F =>
    intro w mg fa h Y KX G hmg all
    refine' K95.all_mk K95.plain KX G hmg all ?a0 ?l0 ?c0 ?k0 ?a1 ?l1 ?c1 ?k1 ?a2 ?l2 ?c2 ?k2 ?a3 ?l3 ?c3 ?k3 ?a4 ?l4 ?c4 ?k4 ?a5 ?l5 ?c5 ?k5 ?a6 ?l6 ?c6 ?k6 ?a7 ?l7 ?c7 ?k7 ?a8 ?l8 ?c8 ?k8 ?a9 ?l9 ?c9 ?k9 ?a10 ?l10 ?c10 ?k10 ?a11 ?l11 ?c11 ?k11 ?a12 ?l12 ?c12 ?k12 ?a13 ?l13 ?c13 ?k13 ?r1 ?t1 ?u1 ?v1 ?z_isinstance ?z_bool ?z_int ?z_all ?z_len ?z_tuple ?z_sorted ?z_range ?z_min ?z_abs ?z_list ?z_max ?z_dict ?h_MOST_PART ?h_MOST_WIDE ?h_LEAST_WIDE
    (case a0 => k_is); (case l0 => k_is); (case c0 => k_is); (case k0 => k_is)
    (case a1 => k_is); (case l1 => k_is); (case c1 => k_is); (case k1 => k_is)
    (case a2 => k_is); (case l2 => k_is); (case c2 => k_is); (case k2 => k_is)
    (case a3 => k_is); (case l3 => k_is); (case c3 => k_is); (case k3 => k_is)
    (case a4 => k_is); (case l4 => k_is); (case c4 => k_is); (case k4 => k_is)
    (case a5 => k_is); (case l5 => k_is); (case c5 => k_is); (case k5 => k_is)
    (case a6 => k_is); (case l6 => k_is); (case c6 => k_is); (case k6 => k_is)
    (case a7 => k_is); (case l7 => k_is); (case c7 => k_is); (case k7 => k_is)
    (case a8 => k_is); (case l8 => k_is); (case c8 => k_is); (case k8 => k_is)
    (case a9 => k_is); (case l9 => k_is); (case c9 => k_is); (case k9 => k_is)
    (case a10 => k_is); (case l10 => k_is); (case c10 => k_is); (case k10 => k_is)
    (case a11 => k_is); (case l11 => k_is); (case c11 => k_is); (case k11 => k_is)
    (case a12 => k_is); (case l12 => k_is); (case c12 => k_is); (case k12 => k_is)
    (case a13 => k_is); (case l13 => k_is); (case c13 => k_is); (case k13 => k_is)
    (case r1 => k_is); (case t1 => exact ⟨rfl, rfl, ⟨_, _, rfl⟩, ⟨_, _, rfl⟩, ⟨_, rfl⟩, ⟨_, _, rfl⟩, by decide⟩); (case u1 => first | rfl | decide +kernel | k_is); (case v1 => decide +kernel)
    (case z_isinstance => k_is); (case z_bool => k_is); (case z_int => k_is); (case z_all => k_is); (case z_len => k_is); (case z_tuple => k_is); (case z_sorted => k_is); (case z_range => k_is); (case z_min => k_is); (case z_abs => k_is); (case z_list => k_is); (case z_max => k_is); (case z_dict => k_is); (case h_MOST_PART => k_is); (case h_MOST_WIDE => k_is); (case h_LEAST_WIDE => k_is)
