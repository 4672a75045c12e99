import PyProof.Rows.All
import Wide.All
import OpenK.AllK
import Wide.FinOn
import HandS.ForMost
import HandS.Walk
import HandS.Flow
import HandS.Style
import HandS.Defaults
import HandS.ExcOwn
import HandS.CallSlots
import HandS.WordsExc
import HandS.Property
import HandS.IsInst
import HandS.Conv
import HandS.Wide
import HandS.MakeKwOnly
import HandS.RaiseMore
import HandS.Small
import PyProof.ReprRoads
import HandS.Head0
import HandS.Head1
import HandS.Head2
import HandS.HeadEnd
import HandS.HeadHook1
import HandS.HeadHook2
import HandS.Ends
import PySem.Challenge.RW_endplaces_k47_two_live_paths
import HandS.Codes
import PyProof.ReprBulk
set_option Elab.async false
set_option linter.all false
set_option maxRecDepth 100000
/-! DL1: a second layer over HandS: data as trees, own cells by number, worlds; expressions and statements as functions of slots and cells. -/
namespace DL
open PySem PySem.Spec PyProof.Rows L2

/-! ### data -/
def keyP : Key → PyData
  | .inl i => .int i
  | .inr s => .str s
mutual
inductive Rp (K : PySem.W.Frag) (G : Hp) : V → PyData → Prop
  | non : Rp K G .non .none
  | bl (b : Bool) : Rp K G (.bl b) (.bool b)
  | int (i : Int) : Rp K G (.int i) (.int i)
  | str (x : Str) : Rp K G (.str x) (.str x)
  | lst {a : Addr} {xs : List V} {ds : List PyData} : Rd G a (.lst xs) → RpAll K G xs ds → Rp K G (.ref a) (.list ds)
  | tup {a : Addr} {xs : List V} {ds : List PyData} : SqT K G a xs → RpAll K G xs ds → Rp K G (.ref a) (.tuple ds)
  | dct {a : Addr} {kvs : List (Key × V)} {ds : List (PyData × PyData)} : G a = some (.dK kvs) → RpK K G kvs ds → Rp K G (.ref a) (.dict ds)
inductive RpAll (K : PySem.W.Frag) (G : Hp) : List V → List PyData → Prop
  | nil : RpAll K G [] []
  | cons {v : V} {vs : List V} {d : PyData} {ds : List PyData} : Rp K G v d → RpAll K G vs ds → RpAll K G (v :: vs) (d :: ds)
inductive RpK (K : PySem.W.Frag) (G : Hp) : List (Key × V) → List (PyData × PyData) → Prop
  | nil : RpK K G [] []
  | cons {k : Key} {v : V} {kvs : List (Key × V)} {d : PyData} {ds : List (PyData × PyData)} : Rp K G v d → RpK K G kvs ds → RpK K G ((k, v) :: kvs) ((keyP k, d) :: ds)
end
theorem rd_mono {G G' : Hp} {a : Addr} {u : HO} (s : Same G G') (h : Rd G a u) : Rd G' a u := by
  rcases h with h | ⟨o, h⟩
  · exact .inl (s _ _ h)
  · exact .inr ⟨o, s _ _ h⟩
theorem sqT_mono {K : PySem.W.Frag} {G G' : Hp} {a : Addr} {xs : List V} (e : Same G G') (h : SqT K G a xs) : SqT K G' a xs := by
  rcases h with (h | ⟨o, h⟩) | h
  · exact .inl (.inl (e _ _ h))
  · exact .inl (.inr ⟨o, e _ _ h⟩)
  · exact .inr h
section
variable {K : PySem.W.Frag} {G G' : Hp}
mutual
theorem Rp.mono (s : Same G G') : ∀ {v : V} {d : PyData}, Rp K G v d → Rp K G' v d
  | _, _, .non => .non
  | _, _, .bl b => .bl b
  | _, _, .int i => .int i
  | _, _, .str x => .str x
  | _, _, .lst h r => .lst (rd_mono s h) (RpAll.mono s r)
  | _, _, .tup h r => .tup (sqT_mono s h) (RpAll.mono s r)
  | _, _, .dct h r => .dct (s _ _ h) (RpK.mono s r)
theorem RpAll.mono (s : Same G G') : ∀ {vs : List V} {ds : List PyData}, RpAll K G vs ds → RpAll K G' vs ds
  | _, _, .nil => .nil
  | _, _, .cons h r => .cons (Rp.mono s h) (RpAll.mono s r)
theorem RpK.mono (s : Same G G') : ∀ {vs : List (Key × V)} {ds : List (PyData × PyData)}, RpK K G vs ds → RpK K G' vs ds
  | _, _, .nil => .nil
  | _, _, .cons h r => .cons (Rp.mono s h) (RpK.mono s r)
end
theorem RpAll.length : ∀ {vs : List V} {ds : List PyData}, RpAll K G vs ds → vs.length = ds.length
  | _, _, .nil => rfl
  | _, _, .cons _ r => by simp [RpAll.length r]
theorem RpAll.get : ∀ {vs : List V} {ds : List PyData} {i : Nat} {v : V}, RpAll K G vs ds → vs[i]? = some v → ∃ d, ds[i]? = some d ∧ Rp K G v d
  | _, _, _, _, .nil, e => by simp at e
  | _, _, 0, _, .cons h _, e => by
    simp at e
    subst e
    exact ⟨_, rfl, h⟩
  | _, _, i + 1, v, .cons _ r, e => by
    obtain ⟨d, h1, h2⟩ := RpAll.get (i := i) (v := v) r (by simpa using e)
    exact ⟨d, by simpa using h1, h2⟩
theorem RpAll.get' : ∀ {vs : List V} {ds : List PyData} {i : Nat} {d : PyData}, RpAll K G vs ds → ds[i]? = some d → ∃ v, vs[i]? = some v ∧ Rp K G v d
  | _, _, _, _, .nil, e => by simp at e
  | _, _, 0, _, .cons h _, e => by
    simp at e
    subst e
    exact ⟨_, rfl, h⟩
  | _, _, i + 1, v, .cons _ r, e => by
    obtain ⟨d, h1, h2⟩ := RpAll.get' (i := i) (d := v) r (by simpa using e)
    exact ⟨d, by simpa using h1, h2⟩
theorem RpAll.append : ∀ {vs ws : List V} {ds es : List PyData}, RpAll K G vs ds → RpAll K G ws es → RpAll K G (vs ++ ws) (ds ++ es)
  | _, _, _, _, .nil, s => s
  | _, _, _, _, .cons h r, s => .cons h (RpAll.append r s)
theorem RpAll.snoc {vs : List V} {ds : List PyData} {v : V} {d : PyData} (r : RpAll K G vs ds) (h : Rp K G v d) : RpAll K G (vs ++ [v]) (ds ++ [d]) := r.append (.cons h .nil)
theorem RpAll.take : ∀ {vs : List V} {ds : List PyData} (n : Nat), RpAll K G vs ds → RpAll K G (vs.take n) (ds.take n)
  | _, _, 0, _ => .nil
  | _, _, _ + 1, .nil => .nil
  | _, _, n + 1, .cons h r => .cons h (RpAll.take n r)
theorem RpAll.drop : ∀ {vs : List V} {ds : List PyData} (n : Nat), RpAll K G vs ds → RpAll K G (vs.drop n) (ds.drop n)
  | _, _, 0, r => r
  | _, _, _ + 1, .nil => .nil
  | _, _, n + 1, .cons _ r => RpAll.drop n r
theorem RpAll.set : ∀ {vs : List V} {ds : List PyData} {v : V} {d : PyData} (i : Nat), RpAll K G vs ds → Rp K G v d → RpAll K G (vs.set i v) (ds.set i d)
  | _, _, _, _, _, .nil, _ => .nil
  | _, _, _, _, 0, .cons _ t, h => .cons h t
  | _, _, _, _, i + 1, .cons q t, h => .cons q (RpAll.set i t h)
theorem RpAll.eraseIdx : ∀ {vs : List V} {ds : List PyData} (i : Nat), RpAll K G vs ds → RpAll K G (vs.eraseIdx i) (ds.eraseIdx i)
  | _, _, _, .nil => .nil
  | _, _, 0, .cons _ t => t
  | _, _, i + 1, .cons q t => .cons q (RpAll.eraseIdx i t)
theorem RpAll.dropLast {vs : List V} {ds : List PyData} (r : RpAll K G vs ds) : RpAll K G vs.dropLast ds.dropLast := by
  rw [List.dropLast_eq_take, List.dropLast_eq_take, r.length]
  exact r.take _
theorem RpAll.reverse : ∀ {vs : List V} {ds : List PyData}, RpAll K G vs ds → RpAll K G vs.reverse ds.reverse
  | _, _, .nil => .nil
  | _, _, .cons h r => by
    rw [List.reverse_cons, List.reverse_cons]
    exact r.reverse.snoc h
end

/-! ### values, cells, worlds -/
inductive Dt where
  | p (d : PyData)
  | cell (b : Bool) (i : Nat)
inductive Cell where
  | lst (ds : List PyData)
  | lsd (ds : List Dt)
  | dK (kvs : List (Key × PyData))
  | dT (kvs : List (List Key × PyData))
  | obj (c : Nat) (fs : List (Str × Dt))
  | dead
abbrev SS := List (Option Dt)
/-- m: a call's own cells, forgotten at its end; o: the others -/
structure Mem where
  m : List Cell
  o : List Cell
def Mem.at_ (M : Mem) : Bool → Nat → Option Cell
  | true, i => M.m[i]?
  | false, i => M.o[i]?
def Mem.set (M : Mem) : Bool → Nat → Cell → Mem
  | true, i, c => ⟨M.m.set i c, M.o⟩
  | false, i, c => ⟨M.m, M.o.set i c⟩
def Mem.add (M : Mem) : Bool → Cell → Mem
  | true, c => ⟨M.m ++ [c], M.o⟩
  | false, c => ⟨M.m, M.o ++ [c]⟩
def Mem.size (M : Mem) : Bool → Nat
  | true => M.m.length
  | false => M.o.length
def Mem.cut (M : Mem) (n : Nat) : Mem := ⟨M.m.take n, M.o⟩
structure Exn where
  c : Nat
  d : Option PyData
inductive Rs (α : Type) where
  | ok (a : α) (M : Mem)
  | ex (c : Exn) (M : Mem)
  | st
@[reducible] def Rs.bind {α β : Type} (r : Rs α) (k : α → Mem → Rs β) : Rs β := match r with
  | .ok a M => k a M
  | .ex c M => .ex c M
  | .st => .st
structure Wd where
  m : List Addr
  o : List Addr
  G : Hp
  fr : List (Addr × HO)
def Wd.at_ (W : Wd) : Bool → Nat → Option Addr
  | true, i => W.m[i]?
  | false, i => W.o[i]?
structure Le (W W' : Wd) : Prop where
  at_ : ∀ (b : Bool) (i : Nat) (a : Addr), W.at_ b i = some a → W'.at_ b i = some a
  G : Same W.G W'.G
  fr : W'.fr = W.fr
theorem Le.refl (W : Wd) : Le W W := ⟨fun _ _ _ h => h, fun _ _ h => h, rfl⟩
theorem Le.trans {W W1 W2 : Wd} (a : Le W W1) (b : Le W1 W2) : Le W W2 := ⟨fun q i x h => b.at_ q i x (a.at_ q i x h), a.G.trans b.G, b.fr.trans a.fr⟩
/-- a value is a datum or a cell -/
def Rv (K : PySem.W.Frag) (W : Wd) (v : V) : Dt → Prop
  | .p d => Rp K W.G v d
  | .cell b i => ∃ a, v = .ref a ∧ W.at_ b i = some a
/-- no own cell of a call -/
def Dt.out : Dt → Prop
  | .cell true _ => False
  | _ => True
theorem Rv.mono {K : PySem.W.Frag} {W W' : Wd} {v : V} {d : Dt} (l : Le W W') (h : Rv K W v d) : Rv K W' v d := by
  cases d with
  | p d => exact Rp.mono l.G h
  | cell b i =>
    obtain ⟨a, e, h⟩ := h
    exact ⟨a, e, l.at_ _ _ _ h⟩
inductive RvAll (K : PySem.W.Frag) (W : Wd) : List V → List Dt → Prop
  | nil : RvAll K W [] []
  | cons {v : V} {vs : List V} {d : Dt} {ds : List Dt} : Rv K W v d → RvAll K W vs ds → RvAll K W (v :: vs) (d :: ds)
theorem RvAll.mono {K : PySem.W.Frag} {W W' : Wd} (l : Le W W') : ∀ {vs : List V} {ds : List Dt}, RvAll K W vs ds → RvAll K W' vs ds
  | _, _, .nil => .nil
  | _, _, .cons h r => .cons (h.mono l) (RvAll.mono l r)
theorem RvAll.length {K : PySem.W.Frag} {W : Wd} : ∀ {vs : List V} {ds : List Dt}, RvAll K W vs ds → vs.length = ds.length
  | _, _, .nil => rfl
  | _, _, .cons _ r => by simp [RvAll.length r]
theorem RvAll.append {K : PySem.W.Frag} {W : Wd} : ∀ {vs ws : List V} {ds es : List Dt}, RvAll K W vs ds → RvAll K W ws es → RvAll K W (vs ++ ws) (ds ++ es)
  | _, _, _, _, .nil, s => s
  | _, _, _, _, .cons h r, s => .cons h (RvAll.append r s)
/-- items and fields of cells -/
inductive RoAll (K : PySem.W.Frag) (W : Wd) : List V → List Dt → Prop
  | nil : RoAll K W [] []
  | cons {v : V} {vs : List V} {d : Dt} {ds : List Dt} : d.out → Rv K W v d → RoAll K W vs ds → RoAll K W (v :: vs) (d :: ds)
theorem RoAll.mono {K : PySem.W.Frag} {W W' : Wd} (l : Le W W') : ∀ {vs : List V} {ds : List Dt}, RoAll K W vs ds → RoAll K W' vs ds
  | _, _, .nil => .nil
  | _, _, .cons o h r => .cons o (h.mono l) (RoAll.mono l r)
theorem RoAll.get {K : PySem.W.Frag} {W : Wd} : ∀ {vs : List V} {ds : List Dt} {i : Nat} {d : Dt}, RoAll K W vs ds → ds[i]? = some d → ∃ v, vs[i]? = some v ∧ Rv K W v d
  | _, _, _, _, .nil, e => by simp at e
  | _, _, 0, _, .cons _ h _, e => by
    simp at e
    subst e
    exact ⟨_, rfl, h⟩
  | _, _, i + 1, v, .cons _ _ r, e => by
    obtain ⟨d, h1, h2⟩ := RoAll.get (i := i) (d := v) r (by simpa using e)
    exact ⟨d, by simpa using h1, h2⟩
theorem RoAll.length {K : PySem.W.Frag} {W : Wd} : ∀ {vs : List V} {ds : List Dt}, RoAll K W vs ds → vs.length = ds.length
  | _, _, .nil => rfl
  | _, _, .cons _ _ r => by simp [RoAll.length r]
inductive RvF (K : PySem.W.Frag) (W : Wd) : List (Str × V) → List (Str × Dt) → Prop
  | nil : RvF K W [] []
  | cons {f : Str} {v : V} {vs : List (Str × V)} {d : Dt} {ds : List (Str × Dt)} : d.out → Rv K W v d → RvF K W vs ds → RvF K W ((f, v) :: vs) ((f, d) :: ds)
theorem RvF.mono {K : PySem.W.Frag} {W W' : Wd} (l : Le W W') : ∀ {vs : List (Str × V)} {ds : List (Str × Dt)}, RvF K W vs ds → RvF K W' vs ds
  | _, _, .nil => .nil
  | _, _, .cons o h r => .cons o (h.mono l) (RvF.mono l r)
theorem RvF.length {K : PySem.W.Frag} {W : Wd} : ∀ {vs : List (Str × V)} {ds : List (Str × Dt)}, RvF K W vs ds → vs.length = ds.length
  | _, _, .nil => rfl
  | _, _, .cons _ _ r => by simp [RvF.length r]
theorem RvF.lookup {K : PySem.W.Frag} {W : Wd} {f : Str} : ∀ {vs : List (Str × V)} {ds : List (Str × Dt)} {d : Dt}, RvF K W vs ds → ds.lookup f = some d → ∃ v, vs.lookup f = some v ∧ Rv K W v d
  | _, _, _, .nil, h => by simp at h
  | _, _, d, .cons (f := g) (v := v) (vs := vs) (d := d') (ds := ds) o h r, e => by
    rw [List.lookup_cons] at e ⊢
    cases q : (f == g) with
    | true =>
      rw [q] at e
      simp only at e ⊢
      cases e
      exact ⟨_, rfl, h⟩
    | false =>
      rw [q] at e
      simp only at e ⊢
      exact RvF.lookup r e
theorem RvF.lookup_none {K : PySem.W.Frag} {W : Wd} {f : Str} : ∀ {vs : List (Str × V)} {ds : List (Str × Dt)}, RvF K W vs ds → ds.lookup f = none → vs.lookup f = none
  | _, _, .nil, h => by simp
  | _, _, .cons (f := g) (v := v) (vs := vs) (d := d') (ds := ds) o h r, e => by
    rw [List.lookup_cons] at e ⊢
    cases q : (f == g) with
    | true =>
      rw [q] at e
      simp at e
    | false =>
      rw [q] at e
      simp only at e ⊢
      exact RvF.lookup_none r e
def putD (f : Str) (d : Dt) : List (Str × Dt) → List (Str × Dt)
  | [] => [(f, d)]
  | p :: r => if p.1 = f then (f, d) :: r else p :: putD f d r
theorem RvF.put {K : PySem.W.Frag} {W : Wd} {f : Str} {v : V} {d : Dt} (o : d.out) (h : Rv K W v d) : ∀ {vs : List (Str × V)} {ds : List (Str × Dt)}, RvF K W vs ds → RvF K W (putF f v vs) (putD f d ds)
  | _, _, .nil => .cons o h .nil
  | _, _, .cons (f := g) (v := v') (vs := vs) (d := d') (ds := ds) o' h' r => by
    unfold putF putD
    by_cases e : g = f
    · subst e
      rw [if_pos rfl, if_pos rfl]
      exact .cons o h r
    · rw [if_neg e, if_neg e]
      exact .cons o' h' (RvF.put o h r)
def KvR (K : PySem.W.Frag) (G : Hp) (p : Key × V) (q : Key × PyData) : Prop := p.1 = q.1 ∧ Rp K G p.2 q.2
def KvT (K : PySem.W.Frag) (G : Hp) (p : List Key × V) (q : List Key × PyData) : Prop := p.1 = q.1 ∧ Rp K G p.2 q.2
theorem Paired.mono2 {α β : Type} {F F' : α → β → Prop} (h : ∀ a b, F a b → F' a b) : ∀ {xs : List α} {ys : List β}, Paired F xs ys → Paired F' xs ys
  | _, _, .nil => .nil
  | _, _, .cons r t => .cons (h _ _ r) (Paired.mono2 h t)
/-- a cell as it lies at a -/
def CellOk (K : PySem.W.Frag) (cA : Nat → Addr) (W : Wd) (H : Hp) (a : Addr) : Cell → Prop
  | .lst ds => ∃ vs, H a = some (.lst vs) ∧ RpAll K W.G vs ds
  | .lsd ds => ∃ vs, H a = some (.lst vs) ∧ RoAll K W vs ds
  | .dK kvs => ∃ vs, H a = some (.dK vs) ∧ Paired (KvR K W.G) vs kvs
  | .dT kvs => ∃ vs, H a = some (.dT vs) ∧ Paired (KvT K W.G) vs kvs
  | .obj c fs => ∃ dx vs, H a = some (.ins (cA c) dx vs) ∧ RvF K W vs fs
  | .dead => True
def Cell.live : Cell → Prop
  | .dead => False
  | _ => True
/-- holds no cells -/
def Cell.flat : Cell → Prop
  | .lsd _ => False
  | .obj _ _ => False
  | _ => True
theorem CellOk.mono {K : PySem.W.Frag} {cA : Nat → Addr} {W W' : Wd} {H H' : Hp} {a : Addr} {c : Cell} (l : Le W W') (e : H' a = H a) (h : CellOk K cA W H a c) : CellOk K cA W' H' a c := by
  cases c with
  | dead => trivial
  | obj c fs => obtain ⟨dx, vs, q, r⟩ := h; exact ⟨dx, vs, e.trans q, r.mono l⟩
  | lst ds => obtain ⟨vs, q, r⟩ := h; exact ⟨vs, e.trans q, r.mono l.G⟩
  | lsd ds => obtain ⟨vs, q, r⟩ := h; exact ⟨vs, e.trans q, r.mono l⟩
  | dK ds => obtain ⟨vs, q, r⟩ := h; exact ⟨vs, e.trans q, Paired.mono2 (fun _ _ z => ⟨z.1, z.2.mono l.G⟩) r⟩
  | dT ds => obtain ⟨vs, q, r⟩ := h; exact ⟨vs, e.trans q, Paired.mono2 (fun _ _ z => ⟨z.1, z.2.mono l.G⟩) r⟩
structure Conc (K : PySem.W.Frag) (cA : Nat → Addr) (W : Wd) (M : Mem) (H : Hp) : Prop where
  lm : W.m.length = M.m.length
  lo : W.o.length = M.o.length
  inj : ∀ (b : Bool) (i : Nat) (b' : Bool) (j : Nat) (a : Addr), W.at_ b i = some a → W.at_ b' j = some a → b = b' ∧ i = j
  sub : Same W.G H
  ex : ∀ (b : Bool) (i : Nat) (a : Addr), W.at_ b i = some a → H a ≠ none
  ok : ∀ (b : Bool) (i : Nat) (a : Addr) (c : Cell), W.at_ b i = some a → M.at_ b i = some c → c.live → W.G a = none ∧ CellOk K cA W H a c
  fr : ∀ p, p ∈ W.fr → H p.1 = some p.2 ∧ W.G p.1 = none ∧ ∀ (b : Bool) (i : Nat), W.at_ b i ≠ some p.1
def SlOk (K : PySem.W.Frag) (W : Wd) (sv : L2.St) (s : SS) : Prop := sv.length = s.length ∧ ∀ (i : Nat) (d : Dt), s[i]? = some (some d) → ∃ v, sv[i]? = some (some v) ∧ Rv K W v d
theorem SlOk.mono {K : PySem.W.Frag} {W W' : Wd} {sv : L2.St} {s : SS} (l : Le W W') (h : SlOk K W sv s) : SlOk K W' sv s :=
  ⟨h.1, fun i d e => let ⟨v, q, r⟩ := h.2 i d e; ⟨v, q, r.mono l⟩⟩
theorem SlOk.set {K : PySem.W.Frag} {W : Wd} {sv : L2.St} {s : SS} {v : V} {d : Dt} (i : Nat) (h : SlOk K W sv s) (r : Rv K W v d) : SlOk K W (sv.set i (some v)) (s.set i (some d)) := by
  refine ⟨by simp [h.1], fun j e q => ?_⟩
  rw [List.getElem?_set] at q
  by_cases hj : i = j
  · subst hj
    rw [if_pos rfl] at q
    by_cases hl : i < s.length
    · rw [if_pos hl] at q
      cases q
      exact ⟨v, by rw [List.getElem?_set_self (by rw [h.1]; exact hl)], r⟩
    · rw [if_neg hl] at q
      cases q
  · rw [if_neg hj] at q
    obtain ⟨w, q1, q2⟩ := h.2 j e q
    exact ⟨w, by rw [List.getElem?_set_ne hj]; exact q1, q2⟩

/-! ### heaps and worlds change -/
section
variable {K : PySem.W.Frag} {cA : Nat → Addr} {W : Wd} {M : Mem} {H : Hp}
theorem Mem.at_set_self {M : Mem} {b : Bool} {i : Nat} {c c0 : Cell} (h : M.at_ b i = some c0) : (M.set b i c).at_ b i = some c := by
  cases b
  · show (M.o.set i c)[i]? = some c
    rw [List.getElem?_set_self (List.getElem?_eq_some_iff.mp h).1]
  · show (M.m.set i c)[i]? = some c
    rw [List.getElem?_set_self (List.getElem?_eq_some_iff.mp h).1]
theorem Mem.at_set_ne {M : Mem} {b b' : Bool} {i j : Nat} {c : Cell} (h : ¬ (b = b' ∧ i = j)) : (M.set b i c).at_ b' j = M.at_ b' j := by
  cases b <;> cases b'
  · exact List.getElem?_set_ne (fun e => h ⟨rfl, e⟩)
  · rfl
  · rfl
  · exact List.getElem?_set_ne (fun e => h ⟨rfl, e⟩)
theorem Conc.free {p : Addr} (c : Conc K cA W M H) (h : H p = none) : W.G p = none := c.sub.free h
theorem Conc.ne {p : Addr} {b : Bool} {i : Nat} {a : Addr} (c : Conc K cA W M H) (h : H p = none) (e : W.at_ b i = some a) : a ≠ p := by
  rintro rfl
  exact c.ex b i a e h
/-- new data at p -/
def Wd.put (W : Wd) (p : Addr) (o : HO) : Wd := ⟨W.m, W.o, upd W.G p o, W.fr⟩
theorem Wd.put_at (p : Addr) (o : HO) (b : Bool) (i : Nat) : (W.put p o).at_ b i = W.at_ b i := by cases b <;> rfl
theorem same_upd {G : Hp} {p : Addr} {o : HO} (h : G p = none) : Same G (upd G p o) := fun b u e => by
  rw [upd_ne (ne_of_none e h)]
  exact e
theorem Wd.lePut {p : Addr} {o : HO} (h : W.G p = none) : Le W (W.put p o) := ⟨fun b i a e => by rw [Wd.put_at]; exact e, same_upd h, rfl⟩
theorem Conc.lePut {p : Addr} {o : HO} (c : Conc K cA W M H) (h : H p = none) : Le W (W.put p o) := Wd.lePut (c.free h)
theorem Conc.put {p : Addr} {o : HO} (c : Conc K cA W M H) (h : H p = none) : Conc K cA (W.put p o) M (upd H p o) := by
  refine ⟨c.lm, c.lo, fun b i b' j a e e' => c.inj b i b' j a (by rw [← Wd.put_at]; exact e) (by rw [← Wd.put_at]; exact e'), fun b u e => ?_, fun b i a e => ?_, fun b i a d e m l => ?_, fun q hq => ?_⟩
  · have z : upd W.G p o b = some u := e
    by_cases q : b = p
    · subst q
      rw [upd_same] at z
      rw [upd_same]
      exact z
    · rw [upd_ne q] at z
      rw [upd_ne q]
      exact c.sub _ _ z
  · rw [Wd.put_at] at e
    rw [upd_ne (c.ne h e)]
    exact c.ex b i a e
  · rw [Wd.put_at] at e
    obtain ⟨g, k⟩ := c.ok b i a d e m l
    refine ⟨?_, k.mono (c.lePut h) (upd_ne (c.ne h e))⟩
    show upd W.G p o a = none
    rw [upd_ne (c.ne h e)]
    exact g
  · obtain ⟨f1, f2, f3⟩ := c.fr q hq
    have z : q.1 ≠ p := fun y => by
      rw [y, h] at f1
      cases f1
    refine ⟨by rw [upd_ne z]; exact f1, ?_, fun b i => by rw [Wd.put_at]; exact f3 b i⟩
    show upd W.G p o q.1 = none
    rw [upd_ne z]
    exact f2
/-- a new cell at p -/
def Wd.add (W : Wd) : Bool → Addr → Wd
  | true, p => ⟨W.m ++ [p], W.o, W.G, W.fr⟩
  | false, p => ⟨W.m, W.o ++ [p], W.G, W.fr⟩
theorem snoc_get {α : Type} {l : List α} {p a : α} {i : Nat} (h : (l ++ [p])[i]? = some a) : l[i]? = some a ∨ (i = l.length ∧ a = p) := by
  by_cases hi : i < l.length
  · rw [List.getElem?_append_left hi] at h
    exact .inl h
  · rw [List.getElem?_append_right (by omega)] at h
    have h1 := (List.getElem?_eq_some_iff.mp h).1
    have h2 : i = l.length := by
      simp at h1
      omega
    subst h2
    simp at h
    exact .inr ⟨rfl, h.symm⟩
theorem get_snoc {α : Type} {l : List α} {p a : α} {i : Nat} (h : l[i]? = some a) : (l ++ [p])[i]? = some a := by
  rw [List.getElem?_append_left (List.getElem?_eq_some_iff.mp h).1]
  exact h
def Wd.size (W : Wd) : Bool → Nat
  | true => W.m.length
  | false => W.o.length
theorem Wd.add_cases {q b : Bool} {p a : Addr} {i : Nat} (h : (W.add q p).at_ b i = some a) : W.at_ b i = some a ∨ (b = q ∧ a = p ∧ i = W.size q) := by
  cases q <;> cases b
  · exact (snoc_get h).imp id fun z => ⟨rfl, z.2, z.1⟩
  · exact .inl h
  · exact .inl h
  · exact (snoc_get h).imp id fun z => ⟨rfl, z.2, z.1⟩
theorem Wd.leAdd {q : Bool} {p : Addr} : Le W (W.add q p) := ⟨fun b i a e => by
  cases q <;> cases b
  · exact get_snoc e
  · exact e
  · exact e
  · exact get_snoc e, fun b u e => by cases q <;> exact e, by cases q <;> rfl⟩
theorem Wd.add_G {q : Bool} {p : Addr} : (W.add q p).G = W.G := by cases q <;> rfl
theorem Wd.add_fr {q : Bool} {p : Addr} : (W.add q p).fr = W.fr := by cases q <;> rfl
theorem Conc.add_at {q : Bool} {p : Addr} (c : Conc K cA W M H) : (W.add q p).at_ q (M.size q) = some p := by
  cases q
  · show (W.o ++ [p])[M.o.length]? = some p
    rw [← c.lo]
    simp
  · show (W.m ++ [p])[M.m.length]? = some p
    rw [← c.lm]
    simp
theorem Mem.add_cases {q b : Bool} {d d' : Cell} {i : Nat} (h : (M.add q d).at_ b i = some d') : M.at_ b i = some d' ∨ (b = q ∧ d' = d ∧ i = M.size q) := by
  cases q <;> cases b
  · exact (snoc_get h).imp id fun z => ⟨rfl, z.2, z.1⟩
  · exact .inl h
  · exact .inl h
  · exact (snoc_get h).imp id fun z => ⟨rfl, z.2, z.1⟩
theorem Wd.size_lt {b : Bool} {i : Nat} {a : Addr} (c : Conc K cA W M H) (e : W.at_ b i = some a) : i < M.size b := by
  cases b
  · have := (List.getElem?_eq_some_iff.mp (show W.o[i]? = some a from e)).1
    rw [c.lo] at this
    exact this
  · have := (List.getElem?_eq_some_iff.mp (show W.m[i]? = some a from e)).1
    rw [c.lm] at this
    exact this
theorem Conc.add {q : Bool} {p : Addr} {H' : Hp} {d : Cell} (c : Conc K cA W M H) (h : H p = none) (hk : ∀ b, b ≠ p → H b ≠ none → H' b = H b) (hp : H' p ≠ none) (hd : d.live → CellOk K cA (W.add q p) H' p d) : Conc K cA (W.add q p) (M.add q d) H' := by
  have hsub : Same W.G H' := fun b u e => by
    have e' := c.sub b u e
    rw [hk b (ne_of_none e' h) (by rw [e']; intro z; cases z)]
    exact e'
  refine ⟨?_, ?_, fun b i b' j a e e' => ?_, ?_, fun b i a e => ?_, fun b i a d' e m l => ?_, fun y hy => ?_⟩
  · cases q
    · exact c.lm
    · show (W.m ++ [p]).length = (M.m ++ [d]).length
      simp [c.lm]
  · cases q
    · show (W.o ++ [p]).length = (M.o ++ [d]).length
      simp [c.lo]
    · exact c.lo
  · rcases Wd.add_cases e with e1 | ⟨h1, h2, h3⟩
    · rcases Wd.add_cases e' with e2 | ⟨_, h2, _⟩
      · exact c.inj b i b' j a e1 e2
      · exact absurd h2 (c.ne h e1)
    · rcases Wd.add_cases e' with e2 | ⟨h4, _, h6⟩
      · exact absurd h2 (c.ne h e2)
      · exact ⟨h1.trans h4.symm, h3.trans h6.symm⟩
  · rw [Wd.add_G]
    exact hsub
  · rcases Wd.add_cases e with e | ⟨rfl, rfl, rfl⟩
    · rw [hk a (c.ne h e) (c.ex b i a e)]
      exact c.ex b i a e
    · exact hp
  · rcases Wd.add_cases e with e1 | ⟨rfl, rfl, rfl⟩
    · rcases Mem.add_cases m with m | ⟨h1, _, h3⟩
      · obtain ⟨g, k⟩ := c.ok b i a d' e1 m l
        refine ⟨by rw [Wd.add_G]; exact g, k.mono Wd.leAdd (hk a (c.ne h e1) (c.ex b i a e1))⟩
      · have z := Wd.size_lt c e1
        rw [h1, h3] at z
        exact absurd z (Nat.lt_irrefl _)
    · rcases Mem.add_cases m with m | ⟨_, rfl, _⟩
      · exfalso
        cases b
        · have := (List.getElem?_eq_some_iff.mp (show M.o[W.o.length]? = some d' from m)).1
          rw [c.lo] at this
          exact Nat.lt_irrefl _ this
        · have := (List.getElem?_eq_some_iff.mp (show M.m[W.m.length]? = some d' from m)).1
          rw [c.lm] at this
          exact Nat.lt_irrefl _ this
      · exact ⟨by rw [Wd.add_G]; exact c.free h, hd l⟩
  · rw [Wd.add_fr] at hy
    obtain ⟨f1, f2, f3⟩ := c.fr y hy
    have z : y.1 ≠ p := fun z => by
      rw [z, h] at f1
      cases f1
    refine ⟨by rw [hk y.1 z (by rw [f1]; intro w; cases w)]; exact f1, by rw [Wd.add_G]; exact f2, fun b i e => ?_⟩
    rcases Wd.add_cases e with e1 | ⟨_, h2, _⟩
    · exact f3 b i e1
    · exact z h2
/-- a cell written: the object at a changes, nothing else that was -/
theorem Conc.set {q : Bool} {i : Nat} {a : Addr} {H' : Hp} {c0 d : Cell} (c : Conc K cA W M H) (e : W.at_ q i = some a) (m : M.at_ q i = some c0) (l0 : c0.live) (hk : ∀ b, b ≠ a → H b ≠ none → H' b = H b) (ha : H' a ≠ none) (hd : d.live → CellOk K cA W H' a d) : Conc K cA W (M.set q i d) H' := by
  obtain ⟨g0, _⟩ := c.ok q i a c0 e m l0
  refine ⟨by cases q <;> simp [Mem.set, c.lm], by cases q <;> simp [Mem.set, c.lo], c.inj, fun b u z => ?_, fun b j x z => ?_, fun b j x d' z mj l => ?_, fun y hy => ?_⟩
  · have e' := c.sub b u z
    have ne : b ≠ a := by
      rintro rfl
      rw [g0] at z
      cases z
    rw [hk b ne (by rw [e']; intro z; cases z)]
    exact e'
  · by_cases y : x = a
    · subst y
      exact ha
    · rw [hk x y (c.ex b j x z)]
      exact c.ex b j x z
  · by_cases hj : q = b ∧ i = j
    · obtain ⟨rfl, rfl⟩ := hj
      rw [e] at z
      cases z
      rw [Mem.at_set_self m] at mj
      cases mj
      exact ⟨g0, hd l⟩
    · rw [Mem.at_set_ne hj] at mj
      obtain ⟨g, k⟩ := c.ok b j x d' z mj l
      have y : x ≠ a := by
        rintro rfl
        exact hj (c.inj q i b j x e z)
      exact ⟨g, k.mono (Le.refl W) (hk x y (c.ex b j x z))⟩
  · obtain ⟨f1, f2, f3⟩ := c.fr y hy
    have z : y.1 ≠ a := fun z => f3 q i (by rw [z]; exact e)
    exact ⟨by rw [hk y.1 z (by rw [f1]; intro w; cases w)]; exact f1, f2, f3⟩
/-- a list cell is frozen -/
theorem Conc.freeze {q : Bool} {i : Nat} {a : Addr} {vs : List V} {ds : List PyData} (c : Conc K cA W M H) (e : W.at_ q i = some a) (m : M.at_ q i = some (.lst ds)) (h : H a = some (.lst vs)) (r : RpAll K W.G vs ds) :
    Conc K cA (W.put a (.lst vs)) (M.set q i .dead) H ∧ Le W (W.put a (.lst vs)) ∧ Rp K (W.put a (.lst vs)).G (.ref a) (.list ds) := by
  obtain ⟨g0, _⟩ := c.ok q i a _ e m trivial
  have le : Le W (W.put a (.lst vs)) := Wd.lePut g0
  refine ⟨⟨by cases q <;> simp [Mem.set, Wd.put, c.lm], by cases q <;> simp [Mem.set, Wd.put, c.lo], fun b i b' j a e e' => c.inj b i b' j a (by rw [← Wd.put_at]; exact e) (by rw [← Wd.put_at]; exact e'), fun b u z => ?_, fun b j x z => c.ex b j x (by rw [← Wd.put_at]; exact z), fun b j x d' z mj l => ?_, fun y hy => ?_⟩, le, .lst (.inl upd_same) (r.mono le.G)⟩
  · have z : upd W.G a (.lst vs) b = some u := z
    by_cases y : b = a
    · subst y
      rw [upd_same] at z
      rw [h]
      exact z
    · rw [upd_ne y] at z
      exact c.sub _ _ z
  · rw [Wd.put_at] at z
    by_cases hj : q = b ∧ i = j
    · obtain ⟨rfl, rfl⟩ := hj
      rw [Mem.at_set_self m] at mj
      cases mj
      exact l.elim
    · rw [Mem.at_set_ne hj] at mj
      obtain ⟨g, k⟩ := c.ok b j x d' z mj l
      have y : x ≠ a := by
        rintro rfl
        exact hj (c.inj q i b j x e z)
      refine ⟨?_, k.mono le rfl⟩
      show upd W.G a (.lst vs) x = none
      rw [upd_ne y]
      exact g
  · obtain ⟨f1, f2, f3⟩ := c.fr y hy
    have z : y.1 ≠ a := fun z => f3 q i (by rw [z]; exact e)
    refine ⟨f1, ?_, fun b i => by rw [Wd.put_at]; exact f3 b i⟩
    show upd W.G a (.lst vs) y.1 = none
    rw [upd_ne z]
    exact f2
/-- a call's own cells forgotten -/
def Wd.cut (W : Wd) (n : Nat) : Wd := ⟨W.m.take n, W.o, W.G, W.fr⟩
theorem Wd.cut_at {n : Nat} {b : Bool} {i : Nat} {a : Addr} (h : (W.cut n).at_ b i = some a) : W.at_ b i = some a := by
  cases b
  · exact h
  · have h : (W.m.take n)[i]? = some a := h
    rw [List.getElem?_take] at h
    by_cases z : i < n
    · rw [if_pos z] at h
      exact h
    · rw [if_neg z] at h
      cases h
theorem Mem.cut_at {n : Nat} {b : Bool} {i : Nat} {c : Cell} (h : (M.cut n).at_ b i = some c) : M.at_ b i = some c := by
  cases b
  · exact h
  · have h : (M.m.take n)[i]? = some c := h
    rw [List.getElem?_take] at h
    by_cases z : i < n
    · rw [if_pos z] at h
      exact h
    · rw [if_neg z] at h
      cases h
theorem Rv.cut {n : Nat} {v : V} {d : Dt} (o : d.out) (h : Rv K W v d) : Rv K (W.cut n) v d := by
  cases d with
  | p d => exact h
  | cell b i =>
    cases b
    · exact h
    · exact o.elim
theorem RoAll.cut {n : Nat} : ∀ {vs : List V} {ds : List Dt}, RoAll K W vs ds → RoAll K (W.cut n) vs ds
  | _, _, .nil => .nil
  | _, _, .cons o h r => .cons o (h.cut o) (RoAll.cut r)
theorem RvF.cut {n : Nat} : ∀ {vs : List (Str × V)} {ds : List (Str × Dt)}, RvF K W vs ds → RvF K (W.cut n) vs ds
  | _, _, .nil => .nil
  | _, _, .cons o h r => .cons o (h.cut o) (RvF.cut r)
theorem CellOk.cut {n : Nat} {a : Addr} {c : Cell} (h : CellOk K cA W H a c) : CellOk K cA (W.cut n) H a c := by
  cases c with
  | dead => trivial
  | obj c fs => obtain ⟨dx, vs, q, r⟩ := h; exact ⟨dx, vs, q, r.cut⟩
  | lst ds => exact h
  | lsd ds => obtain ⟨vs, q, r⟩ := h; exact ⟨vs, q, r.cut⟩
  | dK ds => exact h
  | dT ds => exact h
theorem Conc.cut (n : Nat) (c : Conc K cA W M H) : Conc K cA (W.cut n) (M.cut n) H :=
  ⟨by simp [Wd.cut, Mem.cut, c.lm], c.lo, fun b i b' j a e e' => c.inj b i b' j a (Wd.cut_at e) (Wd.cut_at e'), c.sub, fun b i a e => c.ex b i a (Wd.cut_at e), fun b i a d e m l =>
    let ⟨g, k⟩ := c.ok b i a d (Wd.cut_at e) (Mem.cut_at m) l; ⟨g, k.cut⟩, fun y hy => let ⟨f1, f2, f3⟩ := c.fr y hy; ⟨f1, f2, fun b i e => f3 b i (Wd.cut_at e)⟩⟩
theorem Le.cut {W' : Wd} (c : Conc K cA W M H) (l : Le W W') : Le W (W'.cut M.m.length) := by
  refine ⟨fun b i a e => ?_, l.G, l.fr⟩
  have h := l.at_ b i a e
  cases b
  · exact h
  · have z := (List.getElem?_eq_some_iff.mp (show W.m[i]? = some a from e)).1
    show (W'.m.take M.m.length)[i]? = some a
    rw [List.getElem?_take, if_pos (by rw [← c.lm]; exact z)]
    exact h
/-- an object of the rule's own is laid aside, unseen by what runs -/
def Wd.hold (W : Wd) (p : Addr) (o : HO) : Wd := ⟨W.m, W.o, W.G, (p, o) :: W.fr⟩
theorem Wd.hold_at (p : Addr) (o : HO) (b : Bool) (i : Nat) : (W.hold p o).at_ b i = W.at_ b i := by cases b <;> rfl
theorem CellOk.like {W' : Wd} {a : Addr} {c : Cell} (ea : ∀ b i, W'.at_ b i = W.at_ b i) (eg : W'.G = W.G) (h : CellOk K cA W H a c) : CellOk K cA W' H a c := by
  have rv : ∀ {v : V} {d : Dt}, Rv K W v d → Rv K W' v d := fun {v d} r => by
    cases d with
    | p d =>
      show Rp K W'.G v d
      rw [eg]
      exact r
    | cell b i =>
      obtain ⟨a, e, r⟩ := r
      exact ⟨a, e, by rw [ea]; exact r⟩
  have ro : ∀ {vs : List V} {ds : List Dt}, RoAll K W vs ds → RoAll K W' vs ds := fun {vs ds} r => by
    induction r with
    | nil => exact .nil
    | cons o h _ ih => exact .cons o (rv h) ih
  have rf : ∀ {vs : List (Str × V)} {ds : List (Str × Dt)}, RvF K W vs ds → RvF K W' vs ds := fun {vs ds} r => by
    induction r with
    | nil => exact .nil
    | cons o h _ ih => exact .cons o (rv h) ih
  cases c with
  | dead => trivial
  | obj c fs => obtain ⟨dx, vs, q, r⟩ := h; exact ⟨dx, vs, q, rf r⟩
  | lst ds => obtain ⟨vs, q, r⟩ := h; exact ⟨vs, q, by rw [eg]; exact r⟩
  | lsd ds => obtain ⟨vs, q, r⟩ := h; exact ⟨vs, q, ro r⟩
  | dK ds => obtain ⟨vs, q, r⟩ := h; exact ⟨vs, q, by rw [eg]; exact r⟩
  | dT ds => obtain ⟨vs, q, r⟩ := h; exact ⟨vs, q, by rw [eg]; exact r⟩
theorem Conc.hold {p : Addr} {o : HO} {H' : Hp} (c : Conc K cA W M H) (h : H p = none) (hp : H' p = some o) (hk : ∀ b, b ≠ p → H' b = H b) : Conc K cA (W.hold p o) M H' := by
  have hH : ∀ b, H b ≠ none → H' b = H b := fun b z => hk b (by rintro rfl; exact z h)
  refine ⟨c.lm, c.lo, fun b i b' j a e e' => c.inj b i b' j a (by rw [← Wd.hold_at]; exact e) (by rw [← Wd.hold_at]; exact e'), fun b u e => ?_, fun b i a e => ?_, fun b i a d e m l => ?_, fun y hy => ?_⟩
  · have e' := c.sub b u e
    rw [hH b (by rw [e']; intro z; cases z)]
    exact e'
  · rw [Wd.hold_at] at e
    rw [hH a (c.ex b i a e)]
    exact c.ex b i a e
  · rw [Wd.hold_at] at e
    obtain ⟨g, k⟩ := c.ok b i a d e m l
    exact ⟨g, CellOk.like (fun b i => Wd.hold_at p o b i) rfl (k.mono (Le.refl W) (hH a (c.ex b i a e)))⟩
  · rcases List.mem_cons.mp hy with rfl | hy
    · exact ⟨hp, c.free h, fun b i e => by
        rw [Wd.hold_at] at e
        exact c.ne h e rfl⟩
    · obtain ⟨f1, f2, f3⟩ := c.fr y hy
      refine ⟨by rw [hH y.1 (by rw [f1]; intro z; cases z)]; exact f1, f2, fun b i => by rw [Wd.hold_at]; exact f3 b i⟩
/-- what is held changes -/
theorem Conc.rehold {p : Addr} {o o' : HO} {H' : Hp} (c : Conc K cA (W.hold p o) M H) (np : ∀ q ∈ W.fr, q.1 ≠ p) (hp : H' p = some o') (hk : ∀ b, b ≠ p → H' b = H b) : Conc K cA (W.hold p o') M H' := by
  obtain ⟨g1, g2, g3⟩ := c.fr (p, o) (List.mem_cons_self ..)
  refine ⟨c.lm, c.lo, fun b i b' j a e e' => c.inj b i b' j a (by rw [Wd.hold_at] at e ⊢; exact e) (by rw [Wd.hold_at] at e' ⊢; exact e'), fun b u e => ?_, fun b i a e => ?_, fun b i a d e m l => ?_, fun y hy => ?_⟩
  · have e' := c.sub b u e
    have z : b ≠ p := by
      rintro rfl
      have g2 : W.G b = none := g2
      have e : W.G b = some u := e
      rw [g2] at e
      cases e
    rw [hk b z]
    exact e'
  · rw [Wd.hold_at] at e
    have z : a ≠ p := by
      rintro rfl
      exact g3 b i (by rw [Wd.hold_at]; exact e)
    rw [hk a z]
    exact c.ex b i a (by rw [Wd.hold_at]; exact e)
  · rw [Wd.hold_at] at e
    have z : a ≠ p := by
      rintro rfl
      exact g3 b i (by rw [Wd.hold_at]; exact e)
    obtain ⟨g, k⟩ := c.ok b i a d (by rw [Wd.hold_at]; exact e) m l
    exact ⟨g, CellOk.like (W := W.hold p o) (fun b i => by rw [Wd.hold_at, Wd.hold_at]) rfl (CellOk.mono (W := W.hold p o) (Le.refl _) (hk a z) k)⟩
  · rcases List.mem_cons.mp hy with rfl | hy
    · exact ⟨hp, g2, fun b i => by rw [Wd.hold_at]; have := g3 b i; rw [Wd.hold_at] at this; exact this⟩
    · obtain ⟨f1, f2, f3⟩ := c.fr y (List.mem_cons_of_mem _ hy)
      exact ⟨by rw [hk y.1 (np y hy)]; exact f1, f2, fun b i => by rw [Wd.hold_at]; have := f3 b i; rw [Wd.hold_at] at this; exact this⟩
/-- .. and is given out -/
theorem Conc.drop {p : Addr} {o : HO} (c : Conc K cA W M H) (fr : List (Addr × HO)) (e : W.fr = (p, o) :: fr) (np : ∀ q ∈ fr, q.1 ≠ p) : Conc K cA ⟨W.m, W.o, upd W.G p o, fr⟩ M H ∧ Same W.G (upd W.G p o) := by
  obtain ⟨g1, g2, g3⟩ := c.fr (p, o) (by rw [e]; exact List.mem_cons_self ..)
  have sm : Same W.G (upd W.G p o) := same_upd g2
  have at_ : ∀ b i, Wd.at_ ⟨W.m, W.o, upd W.G p o, fr⟩ b i = W.at_ b i := fun b i => by cases b <;> rfl
  refine ⟨⟨c.lm, c.lo, fun b i b' j a e e' => c.inj b i b' j a (by rw [at_] at e; exact e) (by rw [at_] at e'; exact e'), fun b u z => ?_, fun b i a z => c.ex b i a (by rw [at_] at z; exact z), fun b i a d z m l => ?_, fun y hy => ?_⟩, sm⟩
  · have z : upd W.G p o b = some u := z
    by_cases q : b = p
    · subst q
      rw [upd_same] at z
      cases z
      exact g1
    · rw [upd_ne q] at z
      exact c.sub b u z
  · rw [at_] at z
    obtain ⟨g, k⟩ := c.ok b i a d z m l
    have q : a ≠ p := by
      rintro rfl
      exact g3 b i z
    refine ⟨?_, ?_⟩
    · show upd W.G p o a = none
      rw [upd_ne q]
      exact g
    · exact CellOk.mono (W := ⟨W.m, W.o, W.G, fr⟩) (H := H) ⟨fun b i a z => by cases b <;> exact z, sm, rfl⟩ rfl (CellOk.like (W := W) (W' := ⟨W.m, W.o, W.G, fr⟩) (fun b i => by cases b <;> rfl) rfl k)
  · obtain ⟨f1, f2, f3⟩ := c.fr y (by rw [e]; exact List.mem_cons_of_mem _ hy)
    refine ⟨f1, ?_, fun b i => by rw [at_]; exact f3 b i⟩
    show upd W.G p o y.1 = none
    rw [upd_ne (np y hy)]
    exact f2
end
end DL

set_option Elab.async false
set_option linter.all false
set_option maxRecDepth 100000
/-! DL2: judgements of the second layer, and their rules. -/
namespace DL
open PySem PySem.Spec PyProof.Rows L2

def ExOk (K : PySem.W.Frag) (cA : Nat → Addr) (W : Wd) (H : Hp) (c : Exn) (cls : Value) (dd : Option Addr) : Prop :=
  cls = .ref (cA c.c) ∧ (match c.d with
    | none => dd = none
    | some d => ∃ a v, dd = some a ∧ H a = some (.xd [("name", v)]) ∧ Rp K W.G v d)
/-- what an end of an evaluation asks of what is wanted -/
def PostG {α β : Type} (K : PySem.W.Frag) (cA : Nat → Addr) (R : Wd → β → α → Prop) (r : Rs α) (W : Wd) (Q : β → Hp → Prop) (E : XK) : Prop := match r with
  | .ok a M => ∀ (W' : Wd) (b : β) (H' : Hp), Le W W' → Conc K cA W' M H' → R W' b a → Q b H'
  | .ex c M => ∀ (W' : Wd) (H' : Hp) (cls : Value) (dd : Option Addr), Le W W' → Conc K cA W' M H' → ExOk K cA W' H' c cls dd → E cls dd H'
  | .st => False
theorem PostG.mono {α β : Type} {K : PySem.W.Frag} {cA : Nat → Addr} {R : Wd → β → α → Prop} {r : Rs α} {W W1 : Wd} {Q : β → Hp → Prop} {E : XK} (l : Le W W1) (h : PostG K cA R r W Q E) : PostG K cA R r W1 Q E := by
  cases r with
  | ok a M => exact fun W' b H' l' => h W' b H' (l.trans l')
  | ex c M => exact fun W' H' cls dd l' => h W' H' cls dd (l.trans l')
  | st => exact h
theorem PostG.bind {α β α' β' : Type} {K : PySem.W.Frag} {cA : Nat → Addr} {R : Wd → β → α → Prop} {R' : Wd → β' → α' → Prop} {r : Rs α} {k : α → Mem → Rs α'} {W : Wd} {Q : β' → Hp → Prop} {Q' : β → Hp → Prop} {E : XK}
    (h : PostG K cA R' (r.bind k) W Q E) (f : ∀ (a : α) (M : Mem) (W1 : Wd) (b : β) (H1 : Hp), r = .ok a M → Le W W1 → Conc K cA W1 M H1 → R W1 b a → PostG K cA R' (k a M) W1 Q E → Q' b H1) : PostG K cA R r W Q' E := by
  cases r with
  | ok a M => exact fun W1 b H1 l c q => f a M W1 b H1 rfl l c q (PostG.mono l h)
  | ex c M => exact h
  | st => exact h.elim
abbrev RB : Wd → Bool → Bool → Prop := fun _ b a => b = a

structure AE (X : Cx) (cA : Nat → Addr) (Wx : WX) (e : Expr) (f : SS → Mem → Rs Dt) : Prop where
  ex : ∃ te, PE X e te ∧ ∀ (W : Wd) (sv : L2.St) (s : SS) (M : Mem) (H : Hp) (Q : VK), SlOk X.K W sv s → Conc X.K cA W M H → PostG X.K cA (Rv X.K) (f s M) W Q (fun c d H' => Wx c d sv H') → te sv H Q
structure AT (X : Cx) (cA : Nat → Addr) (Wx : WX) (e : Expr) (f : SS → Mem → Rs Bool) : Prop where
  ex : ∃ te, PT X e te ∧ ∀ (W : Wd) (sv : L2.St) (s : SS) (M : Mem) (H : Hp) (Q : Bool → Hp → Prop), SlOk X.K W sv s → Conc X.K cA W M H → PostG X.K cA RB (f s M) W Q (fun c d H' => Wx c d sv H') → te sv H Q
/-- a test whatever its whole is -/
structure AW (X : Cx) (cA : Nat → Addr) (Wx : WX) (e : Expr) (f : SS → Mem → Rs Bool) : Prop where
  ex : ∃ te, PW X e te ∧ ∀ (W : Wd) (sv : L2.St) (s : SS) (M : Mem) (H : Hp) (Q : Bool → Hp → Prop), SlOk X.K W sv s → Conc X.K cA W M H → PostG X.K cA RB (f s M) W Q (fun c d H' => Wx c d sv H') → te sv H Q
structure AA (X : Cx) (cA : Nat → Addr) (Wx : WX) (es : List Expr) (f : SS → Mem → Rs (List Dt)) : Prop where
  ex : ∃ te, PA X es te ∧ ∀ (W : Wd) (sv : L2.St) (s : SS) (M : Mem) (H : Hp) (Q : List V → Hp → Prop), SlOk X.K W sv s → Conc X.K cA W M H → PostG X.K cA (RvAll X.K) (f s M) W Q (fun c d H' => Wx c d sv H') → te sv H Q

/-! ### statements -/
inductive Fl where
  | nx (s : SS)
  | rt (d : Dt)
  | bk (s : SS)
  | ct (s : SS)
def PostS (K : PySem.W.Frag) (cA : Nat → Addr) (r : Rs Fl) (W : Wd) (D : Ends) (Wx : WX) : Prop := match r with
  | .ok (.nx s) M => ∀ (W' : Wd) (sv : L2.St) (H' : Hp), Le W W' → Conc K cA W' M H' → SlOk K W' sv s → D.nx sv H'
  | .ok (.rt d) M => ∀ (W' : Wd) (v : V) (H' : Hp), Le W W' → Conc K cA W' M H' → Rv K W' v d → D.rt v H'
  | .ok (.bk s) M => ∀ (W' : Wd) (sv : L2.St) (H' : Hp), Le W W' → Conc K cA W' M H' → SlOk K W' sv s → D.bk sv H'
  | .ok (.ct s) M => ∀ (W' : Wd) (sv : L2.St) (H' : Hp), Le W W' → Conc K cA W' M H' → SlOk K W' sv s → D.ct sv H'
  | .ex c M => ∀ (W' : Wd) (sv : L2.St) (H' : Hp) (cls : Value) (dd : Option Addr), Le W W' → Conc K cA W' M H' → ExOk K cA W' H' c cls dd → Wx cls dd sv H'
  | .st => False
theorem PostS.mono {K : PySem.W.Frag} {cA : Nat → Addr} {r : Rs Fl} {W W1 : Wd} {D : Ends} {Wx : WX} (l : Le W W1) (h : PostS K cA r W D Wx) : PostS K cA r W1 D Wx := by
  cases r with
  | ok a M => cases a <;> exact fun W' b H' l' => h W' b H' (l.trans l')
  | ex c M => exact fun W' sv H' cls dd l' => h W' sv H' cls dd (l.trans l')
  | st => exact h
theorem PostS.bind {α β : Type} {K : PySem.W.Frag} {cA : Nat → Addr} {R : Wd → β → α → Prop} {r : Rs α} {k : α → Mem → Rs Fl} {W : Wd} {D : Ends} {Q' : β → Hp → Prop} {Wx : WX} {sv : L2.St}
    (h : PostS K cA (r.bind k) W D Wx) (f : ∀ (a : α) (M : Mem) (W1 : Wd) (b : β) (H1 : Hp), r = .ok a M → Le W W1 → Conc K cA W1 M H1 → R W1 b a → PostS K cA (k a M) W1 D Wx → Q' b H1) : PostG K cA R r W Q' (fun c d H' => Wx c d sv H') := by
  cases r with
  | ok a M => exact fun W1 b H1 l c q => f a M W1 b H1 rfl l c q (PostS.mono l h)
  | ex c M => exact fun W' H' cls dd l c' e => h W' sv H' cls dd l c' e
  | st => exact h.elim
structure AS (X : Cx) (cA : Nat → Addr) (Wx : WX) (st : Stmt) (f : SS → Mem → Rs Fl) : Prop where
  ex : ∃ ts, PS X st ts ∧ ∀ (W : Wd) (sv : L2.St) (s : SS) (M : Mem) (H : Hp) (D : Ends), SlOk X.K W sv s → Conc X.K cA W M H → PostS X.K cA (f s M) W D Wx → ts D sv H
structure ASs (X : Cx) (cA : Nat → Addr) (Wx : WX) (sts : List Stmt) (f : SS → Mem → Rs Fl) : Prop where
  ex : ∃ ts, PSs X sts ts ∧ ∀ (W : Wd) (sv : L2.St) (s : SS) (M : Mem) (H : Hp) (D : Ends), SlOk X.K W sv s → Conc X.K cA W M H → PostS X.K cA (f s M) W D Wx → ts D sv H

section
variable {X : Cx} {cA : Nat → Addr} {Wx : WX} {e a b c : Expr} {f fa fb fc : SS → Mem → Rs Dt} {pos : Pos}

/-! ### names and constants -/
def aVar (i : Nat) : SS → Mem → Rs Dt := fun s M => match s[i]? with
  | some (some d) => .ok d M
  | _ => .st
theorem ae_var (i : Nat) {x : Str} (hN : X.N[i]? = some x := by rfl) (hv : Vis X.env.scope x := by first | exact Or.inl rfl | exact Or.inr (Or.inl rfl) | exact Or.inr (Or.inr rfl)) (hd : (x == ("__debug__" : Str)) = false := by decide)
    (hcd : (x == ("__classdict__" : Str)) = false := by decide) : AE X cA Wx (.Name x pos) (aVar i) := by
  refine ⟨_, pe_var hN hv hd hcd, fun W sv s M H Q so co h => ?_⟩
  unfold aVar at h
  split at h
  · rename_i d e
    obtain ⟨v, q, r⟩ := so.2 i d e
    exact ⟨v, q, h W v H (Le.refl W) co r⟩
  · exact h.elim
def aC (d : PyData) : SS → Mem → Rs Dt := fun _ M => .ok (.p d) M
theorem ae_c {v : V} {d : PyData} (h : PE X e (tC v)) (r : ∀ G, Rp X.K G v d) : AE X cA Wx e (aC d) := ⟨_, h, fun W _ _ _ H _ _ co q => q W v H (Le.refl W) co (r W.G)⟩
theorem ae_int {i : Int} {j : Nat} : AE X cA Wx (.Constant (.int i) j pos) (aC (.int i)) := ae_c pe_int fun _ => .int i
theorem ae_bl {b : Bool} {j : Nat} : AE X cA Wx (.Constant (.bool b) j pos) (aC (.bool b)) := ae_c pe_bl fun _ => .bl b
theorem ae_non {j : Nat} : AE X cA Wx (.Constant .none j pos) (aC .none) := ae_c pe_non fun _ => .non
theorem ae_str {x : Str} {j : Nat} : AE X cA Wx (.Constant (.str x) j pos) (aC (.str x)) := ae_c pe_str fun _ => .str x
/-- a constant of the module -/
theorem ae_glob {x : Str} {u : Value} {v : V} {d : PyData} (hg : Gl X x) (hm : X.mg x = some u) (r : RelV v u) (rd : ∀ G, Rp X.K G v d) (hd : (x == ("__debug__" : Str)) = false := by decide) : AE X cA Wx (.Name x pos) (aC d) := ae_c (pe_glob hg hm r hd) rd

/-! ### operators -/
def OpD (X : Cx) (cA : Nat → Addr) (fo : Value → Value → Sem Value) (g : Dt → Dt → Mem → Rs Dt) : Prop :=
  ∃ r, OpR X fo r ∧ ∀ (W : Wd) (M : Mem) (H : Hp) (x y : V) (dx dy : Dt) (Q : VK) (E : XK), Conc X.K cA W M H → Rv X.K W x dx → Rv X.K W y dy → PostG X.K cA (Rv X.K) (g dx dy M) W Q E → r x y H Q
def aOp (g : Dt → Dt → Mem → Rs Dt) (fa fb : SS → Mem → Rs Dt) : SS → Mem → Rs Dt := fun s M => (fa s M).bind fun x M1 => (fb s M1).bind fun y M2 => g x y M2
theorem aop_core {g : Dt → Dt → Mem → Rs Dt} {r : R2} {ta tb : TE} (ho : ∀ (W : Wd) (M : Mem) (H : Hp) (x y : V) (dx dy : Dt) (Q : VK) (E : XK), Conc X.K cA W M H → Rv X.K W x dx → Rv X.K W y dy → PostG X.K cA (Rv X.K) (g dx dy M) W Q E → r x y H Q)
    (ha : ∀ (W : Wd) (sv : L2.St) (s : SS) (M : Mem) (H : Hp) (Q : VK), SlOk X.K W sv s → Conc X.K cA W M H → PostG X.K cA (Rv X.K) (fa s M) W Q (fun c d H' => Wx c d sv H') → ta sv H Q)
    (hb : ∀ (W : Wd) (sv : L2.St) (s : SS) (M : Mem) (H : Hp) (Q : VK), SlOk X.K W sv s → Conc X.K cA W M H → PostG X.K cA (Rv X.K) (fb s M) W Q (fun c d H' => Wx c d sv H') → tb sv H Q)
    (W : Wd) (sv : L2.St) (s : SS) (M : Mem) (H : Hp) (Q : VK) (so : SlOk X.K W sv s) (co : Conc X.K cA W M H) (h : PostG X.K cA (Rv X.K) (aOp g fa fb s M) W Q (fun c d H' => Wx c d sv H')) : tOp r ta tb sv H Q :=
  ha W sv s M H _ so co (PostG.bind h fun dx M1 W1 x H1 _ l1 c1 rx h1 => hb W1 sv s M1 H1 _ (so.mono l1) c1 (PostG.bind h1 fun dy M2 W2 y H2 _ l2 c2 ry h2 => ho W2 M2 H2 x y dx dy Q _ c2 (rx.mono l2) ry h2))
theorem ae_op {op : Operator} {g : Dt → Dt → Mem → Rs Dt} (ho : OpD X cA (binaryOp op) g) (ha : AE X cA Wx a fa) (hb : AE X cA Wx b fb) : AE X cA Wx (.BinOp a op b pos) (aOp g fa fb) := by
  obtain ⟨r, hr, ho⟩ := ho
  obtain ⟨ta, pa, ha⟩ := ha
  obtain ⟨tb, pb, hb⟩ := hb
  exact ⟨_, pe_op hr pa pb, aop_core ho ha hb⟩
theorem ae_cmp {op : CmpOp} {g : Dt → Dt → Mem → Rs Dt} (ho : OpD X cA (compareOp op) g) (ha : AE X cA Wx a fa) (hb : AE X cA Wx b fb) (hm : behindInMarks op b = false) : AE X cA Wx (.Compare a [op] [b] pos) (aOp g fa fb) := by
  obtain ⟨r, hr, ho⟩ := ho
  obtain ⟨ta, pa, ha⟩ := ha
  obtain ⟨tb, pb, hb⟩ := hb
  exact ⟨_, pe_cmpR hr pa pb hm, aop_core ho ha hb⟩
def Dt.isB : Dt → Option Bool
  | .p (.bool b) => some b
  | _ => none
def aB (f : SS → Mem → Rs Dt) : SS → Mem → Rs Bool := fun s M => (f s M).bind fun x M1 => match x.isB with
  | some b => .ok b M1
  | none => .st
theorem isB_rv {K : PySem.W.Frag} {W : Wd} {v : V} {d : Dt} {b : Bool} (r : Rv K W v d) (h : d.isB = some b) : v = .bl b := by
  cases d with
  | p d =>
    cases d <;> simp [Dt.isB] at h
    subst h
    cases r
    rfl
  | cell q i => simp [Dt.isB] at h
theorem at_cmp {op : CmpOp} {g : Dt → Dt → Mem → Rs Dt} (ho : OpD X cA (compareOp op) g) (ha : AE X cA Wx a fa) (hb : AE X cA Wx b fb) (hm : behindInMarks op b = false) : AT X cA Wx (.Compare a [op] [b] pos) (aB (aOp g fa fb)) := by
  obtain ⟨r, hr, ho⟩ := ho
  obtain ⟨ta, pa, ha⟩ := ha
  obtain ⟨tb, pb, hb⟩ := hb
  refine ⟨_, pt_cmpR hr pa pb hm, fun W sv s M H Q so co h => ?_⟩
  refine aop_core ho ha hb W sv s M H _ so co (PostG.bind h fun d M1 W1 v H1 _ l1 c1 r h1 => ?_)
  split at h1
  · rename_i b e
    exact ⟨b, isB_rv r e, h1 W1 b H1 (Le.refl _) c1 rfl⟩
  · exact h1.elim
/-- a value that is True or False, as a test -/
theorem at_val (ha : AE X cA Wx e f) (hw : ∀ whole, isTrue e X.env whole = (do let v ← whole; standAt e.pos; holding [v] (truthy v)) := by intro _; rfl) : AT X cA Wx e (aB f) := by
  obtain ⟨ta, pa, ha⟩ := ha
  refine ⟨_, pt_truth pa hw, fun W sv s M H Q so co h => ?_⟩
  refine ha W sv s M H _ so co (PostG.bind h fun d M1 W1 v H1 _ l1 c1 r h1 => ?_)
  split at h1
  · rename_i b e
    have z := isB_rv r e
    subst z
    exact ⟨b, rfl, h1 W1 b H1 (Le.refl _) c1 rfl⟩
  · exact h1.elim
variable {tf tg : SS → Mem → Rs Bool}
def aNot (f : SS → Mem → Rs Bool) : SS → Mem → Rs Bool := fun s M => (f s M).bind fun b M1 => .ok (!b) M1
theorem at_not (ha : AT X cA Wx a tf) : AT X cA Wx (.UnaryOp .Not a pos) (aNot tf) := by
  obtain ⟨ta, pa, ha⟩ := ha
  exact ⟨_, pt_not pa, fun W sv s M H Q so co h => ha W sv s M H _ so co (PostG.bind h fun d M1 W1 v H1 _ l1 c1 r h1 => by
    cases r
    exact h1 W1 _ H1 (Le.refl _) c1 rfl)⟩
def aAnd (f g : SS → Mem → Rs Bool) : SS → Mem → Rs Bool := fun s M => (f s M).bind fun b M1 => if b = true then g s M1 else .ok false M1
def aOr (f g : SS → Mem → Rs Bool) : SS → Mem → Rs Bool := fun s M => (f s M).bind fun b M1 => if b = true then .ok true M1 else g s M1
theorem aw_and1 (ha : AT X cA Wx a tf) : AW X cA Wx (.BoolOp .And [a] pos) tf := by
  obtain ⟨ta, pa, ha⟩ := ha
  exact ⟨_, pw_and1 pa, ha⟩
theorem aw_or1 (ha : AT X cA Wx a tf) : AW X cA Wx (.BoolOp .Or [a] pos) tf := by
  obtain ⟨ta, pa, ha⟩ := ha
  exact ⟨_, pw_or1 pa, ha⟩
theorem aw_and {es : List Expr} (ha : AT X cA Wx a tf) (hb : AW X cA Wx (.BoolOp .And (b :: es) pos) tg) : AW X cA Wx (.BoolOp .And (a :: b :: es) pos) (aAnd tf tg) := by
  obtain ⟨ta, pa, ha⟩ := ha
  obtain ⟨tb, pb, hb⟩ := hb
  refine ⟨_, pw_and pa pb, fun W sv s M H Q so co h => ha W sv s M H _ so co (PostG.bind h fun d M1 W1 v H1 _ l1 c1 r h1 => ?_)⟩
  cases r
  cases d with
  | true => exact hb W1 sv s M1 H1 Q (so.mono l1) c1 h1
  | false => exact h1 W1 _ H1 (Le.refl _) c1 rfl
theorem aw_or {es : List Expr} (ha : AT X cA Wx a tf) (hb : AW X cA Wx (.BoolOp .Or (b :: es) pos) tg) : AW X cA Wx (.BoolOp .Or (a :: b :: es) pos) (aOr tf tg) := by
  obtain ⟨ta, pa, ha⟩ := ha
  obtain ⟨tb, pb, hb⟩ := hb
  refine ⟨_, pw_or pa pb, fun W sv s M H Q so co h => ha W sv s M H _ so co (PostG.bind h fun d M1 W1 v H1 _ l1 c1 r h1 => ?_)⟩
  cases r
  cases d with
  | true => exact h1 W1 _ H1 (Le.refl _) c1 rfl
  | false => exact hb W1 sv s M1 H1 Q (so.mono l1) c1 h1
theorem AW.at_ (h : AW X cA Wx e tf) : AT X cA Wx e tf := by
  obtain ⟨ta, pa, ha⟩ := h
  exact ⟨_, pa.pt, ha⟩
/-- and, or, not as values of truth -/
def aV (f : SS → Mem → Rs Bool) : SS → Mem → Rs Dt := fun s M => (f s M).bind fun b M1 => .ok (.p (.bool b)) M1
def aAndV (fa fb : SS → Mem → Rs Dt) : SS → Mem → Rs Dt := fun s M => (aB fa s M).bind fun b M1 => if b = true then fb s M1 else .ok (.p (.bool false)) M1
def aOrV (fa fb : SS → Mem → Rs Dt) : SS → Mem → Rs Dt := fun s M => (aB fa s M).bind fun b M1 => if b = true then .ok (.p (.bool true)) M1 else fb s M1
theorem aB_ok {s : SS} {M M1 : Mem} {b : Bool} (h : aB f s M = .ok b M1) : f s M = .ok (.p (.bool b)) M1 := by
  unfold aB at h
  cases q : f s M with
  | ok d M2 =>
    rw [q] at h
    cases d with
    | p d => cases d <;> simp_all [Rs.bind, Dt.isB]
    | cell _ _ => simp_all [Rs.bind, Dt.isB]
  | ex c M2 =>
    rw [q] at h
    simp [Rs.bind] at h
  | st =>
    rw [q] at h
    simp [Rs.bind] at h
theorem aB_bind {α β : Type} {R' : Wd → β → α → Prop} {s : SS} {M : Mem} {W : Wd} {k : Bool → Mem → Rs α} {Q : β → Hp → Prop} {Q' : VK} {E : XK} {K : PySem.W.Frag} (h : PostG K cA R' ((aB f s M).bind k) W Q E)
    (g : ∀ (b : Bool) (M1 : Mem) (W1 : Wd) (H1 : Hp), Le W W1 → Conc K cA W1 M1 H1 → PostG K cA R' (k b M1) W1 Q E → Q' (.bl b) H1) : PostG K cA (Rv K) (f s M) W Q' E := by
  unfold aB at h
  cases q : f s M with
  | ok d M2 =>
    rw [q] at h
    intro W1 v H1 l1 c1 r
    cases z : d.isB with
    | some b =>
      have := isB_rv r z
      subst this
      refine g b M2 W1 H1 l1 c1 ?_
      simp only [Rs.bind, z] at h
      exact PostG.mono l1 h
    | none =>
      simp only [Rs.bind, z] at h
      exact h.elim
  | ex c M2 =>
    rw [q] at h
    exact h
  | st =>
    rw [q] at h
    exact h
theorem ae_and {es : List Expr} (ha : AE X cA Wx a fa) (hb : AE X cA Wx (.BoolOp .And (b :: es) pos) fb) : AE X cA Wx (.BoolOp .And (a :: b :: es) pos) (aAndV fa fb) := by
  obtain ⟨ta, pa, ha⟩ := ha
  obtain ⟨tb, pb, hb⟩ := hb
  refine ⟨_, pe_and pa pb, fun W sv s M H Q so co h => ha W sv s M H _ so co (aB_bind h fun b M1 W1 H1 l1 c1 h1 => ⟨b, rfl, ?_⟩)⟩
  cases b with
  | true => exact hb W1 sv s M1 H1 Q (so.mono l1) c1 h1
  | false => exact h1 W1 _ H1 (Le.refl _) c1 (Rp.bl false)
theorem ae_or {es : List Expr} (ha : AE X cA Wx a fa) (hb : AE X cA Wx (.BoolOp .Or (b :: es) pos) fb) : AE X cA Wx (.BoolOp .Or (a :: b :: es) pos) (aOrV fa fb) := by
  obtain ⟨ta, pa, ha⟩ := ha
  obtain ⟨tb, pb, hb⟩ := hb
  refine ⟨_, pe_or pa pb, fun W sv s M H Q so co h => ha W sv s M H _ so co (aB_bind h fun b M1 W1 H1 l1 c1 h1 => ⟨b, rfl, ?_⟩)⟩
  cases b with
  | true => exact h1 W1 _ H1 (Le.refl _) c1 (Rp.bl true)
  | false => exact hb W1 sv s M1 H1 Q (so.mono l1) c1 h1
theorem ae_one {op : BoolOp} (ha : AE X cA Wx a fa) : AE X cA Wx (.BoolOp op [a] pos) fa := by
  obtain ⟨ta, pa, ha⟩ := ha
  exact ⟨_, pe_one pa, ha⟩
def aNotV (fa : SS → Mem → Rs Dt) : SS → Mem → Rs Dt := fun s M => (aB fa s M).bind fun b M1 => .ok (.p (.bool (!b))) M1
theorem ae_not (ha : AE X cA Wx a fa) : AE X cA Wx (.UnaryOp .Not a pos) (aNotV fa) := by
  obtain ⟨ta, pa, ha⟩ := ha
  exact ⟨_, pe_not pa, fun W sv s M H Q so co h => ha W sv s M H _ so co (aB_bind h fun b M1 W1 H1 l1 c1 h1 => ⟨b, rfl, h1 W1 _ H1 (Le.refl _) c1 (Rp.bl _)⟩)⟩
def aIf (t : SS → Mem → Rs Bool) (fa fb : SS → Mem → Rs Dt) : SS → Mem → Rs Dt := fun s M => (t s M).bind fun b M1 => if b = true then fa s M1 else fb s M1
theorem ae_ifExp (hc : AT X cA Wx c tf) (ha : AE X cA Wx a fa) (hb : AE X cA Wx b fb) : AE X cA Wx (.IfExp c a b pos) (aIf tf fa fb) := by
  obtain ⟨tc, pc, hc⟩ := hc
  obtain ⟨ta, pa, ha⟩ := ha
  obtain ⟨tb, pb, hb⟩ := hb
  refine ⟨_, pe_ifExp pc pa pb, fun W sv s M H Q so co h => hc W sv s M H _ so co (PostG.bind h fun d M1 W1 v H1 _ l1 c1 r h1 => ?_)⟩
  cases r
  cases d with
  | true => exact ha W1 sv s M1 H1 Q (so.mono l1) c1 h1
  | false => exact hb W1 sv s M1 H1 Q (so.mono l1) c1 h1

/-! ### argument lists, displays -/
variable {es : List Expr} {fs : SS → Mem → Rs (List Dt)}
def aNil : SS → Mem → Rs (List Dt) := fun _ M => .ok [] M
def aCons (f : SS → Mem → Rs Dt) (g : SS → Mem → Rs (List Dt)) : SS → Mem → Rs (List Dt) := fun s M => (f s M).bind fun x M1 => (g s M1).bind fun xs M2 => .ok (x :: xs) M2
theorem aa_nil : AA X cA Wx [] aNil := ⟨_, pa_nil, fun W _ _ _ H _ _ co q => q W [] H (Le.refl W) co .nil⟩
theorem aa_cons (ha : AE X cA Wx e f) (hr : AA X cA Wx es fs) (hs : starEach (e :: es) X.env = (false, eval e X.env) :: starEach es X.env := by rfl) : AA X cA Wx (e :: es) (aCons f fs) := by
  obtain ⟨ta, pa, ha⟩ := ha
  obtain ⟨tb, pb, hb⟩ := hr
  exact ⟨_, pa_cons pa pb hs, fun W sv s M H Q so co h => ha W sv s M H _ so co (PostG.bind h fun dx M1 W1 x H1 _ l1 c1 rx h1 => hb W1 sv s M1 H1 _ (so.mono l1) c1 (PostG.bind h1 fun dy M2 W2 y H2 _ l2 c2 ry h2 => h2 W2 _ H2 (Le.refl _) c2 (.cons (rx.mono l2) ry)))⟩
/-- a datum of a value: a list cell is frozen -/
def toP : Dt → Mem → Rs PyData
  | .p d, M => .ok d M
  | .cell b i, M => match M.at_ b i with
    | some (.lst ds) => .ok (.list ds) (M.set b i .dead)
    | _ => .st
def toPs : List Dt → Mem → Rs (List PyData)
  | [], M => .ok [] M
  | x :: xs, M => (toP x M).bind fun d M1 => (toPs xs M1).bind fun ds M2 => .ok (d :: ds) M2
def RpW (K : PySem.W.Frag) : Wd → V → PyData → Prop := fun W v d => Rp K W.G v d
theorem toP_ok {K : PySem.W.Frag} {W : Wd} {M M1 : Mem} {H : Hp} {v : V} {x : Dt} {d : PyData} (co : Conc K cA W M H) (r : Rv K W v x) (h : toP x M = .ok d M1) : ∃ W1, Le W W1 ∧ Conc K cA W1 M1 H ∧ Rp K W1.G v d := by
  cases x with
  | p x =>
    cases h
    exact ⟨W, Le.refl W, co, r⟩
  | cell b i =>
    obtain ⟨a, rfl, e⟩ := r
    simp only [toP] at h
    split at h
    · rename_i ds m
      cases h
      obtain ⟨g, vs, hv, hr⟩ := co.ok b i a _ e m trivial
      obtain ⟨c1, l1, r1⟩ := co.freeze e m hv hr
      exact ⟨_, l1, c1, r1⟩
    · cases h
theorem toP_ex {x : Dt} {M M1 : Mem} {c : Exn} : toP x M ≠ .ex c M1 := by
  cases x with
  | p x => intro h; cases h
  | cell b i =>
    intro h
    simp only [toP] at h
    split at h <;> cases h
theorem toPs_ok {K : PySem.W.Frag} {H : Hp} : ∀ {vs : List V} {xs : List Dt} {W : Wd} {M M1 : Mem} {ds : List PyData}, Conc K cA W M H → RvAll K W vs xs → toPs xs M = .ok ds M1 → ∃ W1, Le W W1 ∧ Conc K cA W1 M1 H ∧ RpAll K W1.G vs ds
  | _, _, W, M, M1, ds, co, .nil, h => by
    cases h
    exact ⟨W, Le.refl W, co, .nil⟩
  | _, _, W, M, M1, ds, co, .cons (d := x) (ds := xs) r rs, h => by
    unfold toPs at h
    cases q : toP x M with
    | ok d M2 =>
      rw [q] at h
      obtain ⟨W1, l1, c1, r1⟩ := toP_ok co r q
      simp only [Rs.bind] at h
      cases q2 : toPs xs M2 with
      | ok ds2 M3 =>
        rw [q2] at h
        cases h
        obtain ⟨W2, l2, c2, r2⟩ := toPs_ok c1 (rs.mono l1) q2
        exact ⟨W2, l1.trans l2, c2, .cons (r1.mono l2.G) r2⟩
      | ex c M3 =>
        rw [q2] at h
        cases h
      | st =>
        rw [q2] at h
        cases h
    | ex c M2 =>
      rw [q] at h
      cases h
    | st =>
      rw [q] at h
      cases h
theorem toPs_ex : ∀ {xs : List Dt} {M M1 : Mem} {c : Exn}, toPs xs M ≠ .ex c M1
  | [], _, _, _ => fun h => by cases h
  | x :: xs, M, M1, c => fun h => by
    unfold toPs at h
    cases q : toP x M with
    | ok d M2 =>
      rw [q] at h
      simp only [Rs.bind] at h
      cases q2 : toPs xs M2 with
      | ok ds2 M3 =>
        rw [q2] at h
        cases h
      | ex c M3 => exact toPs_ex q2
      | st =>
        rw [q2] at h
        cases h
    | ex c M2 => exact toP_ex q
    | st =>
      rw [q] at h
      cases h
theorem toP_bind {α β : Type} {R' : Wd → β → α → Prop} {x : Dt} {v : V} {M : Mem} {W : Wd} {H : Hp} {k : PyData → Mem → Rs α} {Q : β → Hp → Prop} {E : XK} {K : PySem.W.Frag} {A : Prop} (co : Conc K cA W M H) (r : Rv K W v x) (h : PostG K cA R' ((toP x M).bind k) W Q E)
    (g : ∀ (d : PyData) (M1 : Mem) (W1 : Wd), Le W W1 → Conc K cA W1 M1 H → Rp K W1.G v d → PostG K cA R' (k d M1) W1 Q E → A) : A := by
  cases q : toP x M with
  | ok d M1 =>
    obtain ⟨W1, l1, c1, r1⟩ := toP_ok co r q
    rw [q] at h
    exact g d M1 W1 l1 c1 r1 (PostG.mono l1 h)
  | ex c M1 => exact (toP_ex q).elim
  | st =>
    rw [q] at h
    exact h.elim
theorem toPs_bind {α β : Type} {R' : Wd → β → α → Prop} {xs : List Dt} {vs : List V} {M : Mem} {W : Wd} {H : Hp} {k : List PyData → Mem → Rs α} {Q : β → Hp → Prop} {E : XK} {K : PySem.W.Frag} {A : Prop} (co : Conc K cA W M H) (r : RvAll K W vs xs) (h : PostG K cA R' ((toPs xs M).bind k) W Q E)
    (g : ∀ (ds : List PyData) (M1 : Mem) (W1 : Wd), Le W W1 → Conc K cA W1 M1 H → RpAll K W1.G vs ds → PostG K cA R' (k ds M1) W1 Q E → A) : A := by
  cases q : toPs xs M with
  | ok d M1 =>
    obtain ⟨W1, l1, c1, r1⟩ := toPs_ok co r q
    rw [q] at h
    exact g d M1 W1 l1 c1 r1 (PostG.mono l1 h)
  | ex c M1 => exact (toPs_ex q).elim
  | st =>
    rw [q] at h
    exact h.elim
/-- a new list: its items; as data or as a cell -/
structure AL (X : Cx) (cA : Nat → Addr) (Wx : WX) (e : Expr) (f : SS → Mem → Rs (List PyData)) : Prop where
  ex : ∃ te, PE X e te ∧ ∀ (W : Wd) (sv : L2.St) (s : SS) (M : Mem) (H : Hp) (Q : VK), SlOk X.K W sv s → Conc X.K cA W M H →
    (match f s M with
      | .ok ds M' => ∀ (W' : Wd) (vs : List V) (p : Addr) (H' : Hp), Le W W' → Conc X.K cA W' M' H' → RpAll X.K W'.G vs ds → H' p = none → Q (.ref p) (upd H' p (.lst vs))
      | .ex c M' => ∀ (W' : Wd) (H' : Hp) (cls : Value) (dd : Option Addr), Le W W' → Conc X.K cA W' M' H' → ExOk X.K cA W' H' c cls dd → Wx cls dd sv H'
      | .st => False) → te sv H Q
def aP (f : SS → Mem → Rs (List PyData)) : SS → Mem → Rs Dt := fun s M => (f s M).bind fun ds M1 => .ok (.p (.list ds)) M1
def aNew (q : Bool) (f : SS → Mem → Rs (List PyData)) : SS → Mem → Rs Dt := fun s M => (f s M).bind fun ds M1 => .ok (.cell q (M1.size q)) (M1.add q (.lst ds))
theorem AL.p {g : SS → Mem → Rs (List PyData)} (h : AL X cA Wx e g) : AE X cA Wx e (aP g) := by
  obtain ⟨te, pe, h⟩ := h
  refine ⟨te, pe, fun W sv s M H Q so co hp => h W sv s M H Q so co ?_⟩
  unfold aP at hp
  cases q : g s M with
  | ok ds M1 =>
    rw [q] at hp
    intro W' vs p H' l c r hn
    exact hp (W'.put p (.lst vs)) _ _ (l.trans (c.lePut hn)) (c.put hn) (Rp.lst (.inl upd_same) (r.mono (c.lePut hn).G))
  | ex c M1 =>
    rw [q] at hp
    exact hp
  | st =>
    rw [q] at hp
    exact hp
theorem AL.new {g : SS → Mem → Rs (List PyData)} (q : Bool) (h : AL X cA Wx e g) : AE X cA Wx e (aNew q g) := by
  obtain ⟨te, pe, h⟩ := h
  refine ⟨te, pe, fun W sv s M H Q so co hp => h W sv s M H Q so co ?_⟩
  unfold aNew at hp
  cases z : g s M with
  | ok ds M1 =>
    rw [z] at hp
    intro W' vs p H' l c r hn
    refine hp (W'.add q p) _ _ (l.trans Wd.leAdd) (c.add hn (fun b hb _ => upd_ne hb) (by rw [upd_same]; intro y; cases y) fun _ => ⟨vs, upd_same, ?_⟩) ⟨p, rfl, c.add_at⟩
    rw [Wd.add_G]
    exact r
  | ex c M1 =>
    rw [z] at hp
    exact hp
  | st =>
    rw [z] at hp
    exact hp
def aLst (f : SS → Mem → Rs (List Dt)) : SS → Mem → Rs (List PyData) := fun s M => (f s M).bind fun xs M1 => (toPs xs M1).bind fun ds M2 => if ds.length ≤ sizeLine then .ok ds M2 else .st
theorem al_lst (h : AA X cA Wx es fs) : AL X cA Wx (.List es pos) (aLst fs) := by
  obtain ⟨ta, pa, ha⟩ := h
  refine ⟨_, pe_lst pa, fun W sv s M H Q so co h => ha W sv s M H _ so co ?_⟩
  unfold aLst at h
  cases z : fs s M with
  | ok xs M1 =>
    rw [z] at h
    intro W1 vs H1 l1 c1 r1
    simp only [Rs.bind] at h
    cases z2 : toPs xs M1 with
    | ok ds M2 =>
      rw [z2] at h
      obtain ⟨W2, l2, c2, r2⟩ := toPs_ok c1 r1 z2
      simp only at h
      by_cases hl : ds.length ≤ sizeLine
      · rw [if_pos hl] at h
        exact ⟨by rw [r2.length]; exact hl, fun p hp => h W2 vs p H1 (l1.trans l2) c2 r2 hp⟩
      · rw [if_neg hl] at h
        exact h.elim
    | ex c M2 => exact (toPs_ex z2).elim
    | st =>
      rw [z2] at h
      exact h.elim
  | ex c M1 =>
    rw [z] at h
    exact h
  | st =>
    rw [z] at h
    exact h
def aTup (f : SS → Mem → Rs (List Dt)) : SS → Mem → Rs Dt := fun s M => (f s M).bind fun xs M1 => (toPs xs M1).bind fun ds M2 => if ds.length ≤ sizeLine then .ok (.p (.tuple ds)) M2 else .st
theorem ae_tup {x1 : Nat} (h : AA X cA Wx es fs) : AE X cA Wx (.Tuple es x1 pos) (aTup fs) := by
  obtain ⟨ta, pa, ha⟩ := h
  refine ⟨_, pe_tup pa, fun W sv s M H Q so co h => ha W sv s M H _ so co (PostG.bind h fun xs M1 W1 vs H1 _ l1 c1 r1 h1 => ?_)⟩
  refine toPs_bind c1 r1 h1 fun ds M2 W2 l2 c2 r2 h2 => ?_
  by_cases hl : ds.length ≤ sizeLine
  · rw [if_pos hl] at h2
    exact ⟨by rw [r2.length]; exact hl, fun p hp => h2 (W2.put p (.tup vs)) _ _ (c2.lePut hp) (c2.put hp) (Rp.tup (.inl (.inl upd_same)) (r2.mono (c2.lePut hp).G))⟩
  · rw [if_neg hl] at h2
    exact h2.elim

/-! ### statements -/
variable {st : Stmt} {sts : List Stmt} {sf sg : SS → Mem → Rs Fl}
def aNext : SS → Mem → Rs Fl := fun s M => .ok (.nx s) M
def aSeq (f g : SS → Mem → Rs Fl) : SS → Mem → Rs Fl := fun s M => (f s M).bind fun x M1 => match x with
  | .nx s1 => g s1 M1
  | x => .ok x M1
theorem ass_nil : ASs X cA Wx [] aNext := ⟨_, pss_nil, fun W sv s M H D so co h => h W sv H (Le.refl W) co so⟩
theorem ass_one (h : AS X cA Wx st sf) : ASs X cA Wx [st] sf := by
  obtain ⟨ts, ps, h⟩ := h
  exact ⟨_, pss_one ps, h⟩
theorem ass_cons (h : AS X cA Wx st sf) (hr : ASs X cA Wx sts sg) : ASs X cA Wx (st :: sts) (aSeq sf sg) := by
  obtain ⟨ts, ps, h⟩ := h
  obtain ⟨tr, pr, hr⟩ := hr
  refine ⟨_, pss_cons ps pr, fun W sv s M H D so co hp => h W sv s M H _ so co ?_⟩
  unfold aSeq at hp
  cases z : sf s M with
  | ok x M1 =>
    rw [z] at hp
    cases x with
    | nx s1 => exact fun W1 sv1 H1 l1 c1 so1 => hr W1 sv1 s1 M1 H1 D so1 c1 (PostS.mono l1 hp)
    | rt d => exact hp
    | bk s1 => exact hp
    | ct s1 => exact hp
  | ex c M1 =>
    rw [z] at hp
    exact hp
  | st =>
    rw [z] at hp
    exact hp
theorem as_pass : AS X cA Wx (.Pass pos) aNext := ⟨_, ps_pass, fun W sv s M H D so co h => h W sv H (Le.refl W) co so⟩
def aBreak : SS → Mem → Rs Fl := fun s M => .ok (.bk s) M
def aCont : SS → Mem → Rs Fl := fun s M => .ok (.ct s) M
theorem as_break : AS X cA Wx (.Break pos) aBreak := ⟨_, ps_break, fun W sv s M H D so co h => h W sv H (Le.refl W) co so⟩
theorem as_cont : AS X cA Wx (.Continue pos) aCont := ⟨_, ps_continue, fun W sv s M H D so co h => h W sv H (Le.refl W) co so⟩
def aDrop (f : SS → Mem → Rs Dt) : SS → Mem → Rs Fl := fun s M => (f s M).bind fun _ M1 => .ok (.nx s) M1
theorem as_expr (h : AE X cA Wx e f) (hs : swapsWith e none pos.line X.env = pure false := by rfl) : AS X cA Wx (.Expr e pos) (aDrop f) := by
  obtain ⟨te, pe, h⟩ := h
  exact ⟨_, ps_expr pe hs, fun W sv s M H D so co hp => h W sv s M H _ so co (PostS.bind hp fun d M1 W1 v H1 _ l1 c1 r1 h1 => h1 W1 sv H1 (Le.refl _) c1 (so.mono l1))⟩
def aRet (f : SS → Mem → Rs Dt) : SS → Mem → Rs Fl := fun s M => (f s M).bind fun d M1 => .ok (.rt d) M1
theorem as_ret (h : AE X cA Wx e f) : AS X cA Wx (.Return (some e) pos) (aRet f) := by
  obtain ⟨te, pe, h⟩ := h
  exact ⟨_, ps_ret pe, fun W sv s M H D so co hp => h W sv s M H _ so co (PostS.bind hp fun d M1 W1 v H1 _ l1 c1 r1 h1 => h1 W1 v H1 (Le.refl _) c1 r1)⟩
def aRetN : SS → Mem → Rs Fl := fun _ M => .ok (.rt (.p .none)) M
theorem as_retN : AS X cA Wx (.Return none pos) aRetN := ⟨_, ps_retN, fun W sv s M H D so co h => h W _ H (Le.refl W) co Rp.non⟩
def aIfS (t : SS → Mem → Rs Bool) (f g : SS → Mem → Rs Fl) : SS → Mem → Rs Fl := fun s M => (t s M).bind fun b M1 => if b = true then f s M1 else g s M1
theorem as_if {s1 s2 : List Stmt} (hc : AT X cA Wx c tf) (ha : ASs X cA Wx s1 sf) (hb : ASs X cA Wx s2 sg) : AS X cA Wx (.If c s1 s2 pos) (aIfS tf sf sg) := by
  obtain ⟨tc, pc, hc⟩ := hc
  obtain ⟨ta, pa, ha⟩ := ha
  obtain ⟨tb, pb, hb⟩ := hb
  refine ⟨_, ps_if pc pa pb, fun W sv s M H D so co h => hc W sv s M H _ so co (PostS.bind h fun d M1 W1 v H1 _ l1 c1 r h1 => ?_)⟩
  cases r
  cases d with
  | true => exact ha W1 sv s M1 H1 D (so.mono l1) c1 h1
  | false => exact hb W1 sv s M1 H1 D (so.mono l1) c1 h1
def aNever : SS → Mem → Rs Fl := fun _ _ => .st
theorem as_never : AS X cA Wx st aNever := ⟨_, ps_never, fun _ _ _ _ _ _ _ _ h => h.elim⟩
theorem ass_never : ASs X cA Wx sts aNever := ⟨_, pss_never, fun _ _ _ _ _ _ _ _ h => h.elim⟩
/-- x = e -/
def aSet (i : Nat) (f : SS → Mem → Rs Dt) : SS → Mem → Rs Fl := fun s M => (f s M).bind fun d M1 => .ok (.nx (s.set i (some d))) M1
theorem as_set {i : Nat} {x : Str} {pos' : Pos} (hN : X.N.Nodup) (hi : X.N[i]? = some x) (hx : Loc X.env.scope x) (h : AE X cA Wx e f)
    (hf : X.fn x = true ∨ X.env.scope.names.lookup x = some .local := by first | exact .inl rfl | exact .inr rfl | assumption) (hs : swapsWithSole [.Name x pos'] e pos.line X.env = pure false := by rfl) : AS X cA Wx (.Assign [.Name x pos'] e pos) (aSet i f) := by
  obtain ⟨te, pe, h⟩ := h
  exact ⟨_, ps_asg pe (pg_name hN hi hx hf) hs, fun W sv s M H D so co hp => h W sv s M H _ so co (PostS.bind hp fun d M1 W1 v H1 _ l1 c1 r1 h1 => h1 W1 _ H1 (Le.refl _) c1 ((so.mono l1).set i r1))⟩
end
end DL

set_option Elab.async false
set_option linter.all false
set_option maxRecDepth 100000
/-! DL3: operators, subscripts, built-ins, methods over data and cells. -/
namespace DL
open PySem PySem.Spec PyProof.Rows L2

section
variable {K : PySem.W.Frag} {cA : Nat → Addr} {W : Wd} {M : Mem} {H : Hp} {v : V} {x : Dt}
/-! ### what a value holds -/
def lstOf (M : Mem) : Dt → Option (List PyData)
  | .p (.list ds) => some ds
  | .cell b i => match M.at_ b i with
    | some (.lst ds) => some ds
    | _ => none
  | _ => none
def tupOf : Dt → Option (List PyData)
  | .p (.tuple ds) => some ds
  | _ => none
def seqOf (M : Mem) (x : Dt) : Option (List PyData) := match lstOf M x with
  | some ds => some ds
  | none => tupOf x
def strOf : Dt → Option Str
  | .p (.str s) => some s
  | _ => none
def intOf : Dt → Option Int
  | .p (.int i) => some i
  | _ => none
def boolOf : Dt → Option Bool
  | .p (.bool b) => some b
  | _ => none
theorem lstOf_rd (co : Conc K cA W M H) (r : Rv K W v x) {ds : List PyData} (h : lstOf M x = some ds) : ∃ a vs, v = .ref a ∧ Rd H a (.lst vs) ∧ RpAll K W.G vs ds := by
  cases x with
  | p d =>
    cases d <;> simp only [lstOf] at h <;> try cases h
    cases r with
    | lst hd hr => exact ⟨_, _, rfl, rd_mono co.sub hd, hr⟩
  | cell b i =>
    obtain ⟨a, rfl, e⟩ := r
    simp only [lstOf] at h
    split at h
    · rename_i m
      cases h
      obtain ⟨g, vs, hv, hr⟩ := co.ok b i a _ e m trivial
      exact ⟨a, vs, rfl, .inl hv, hr⟩
    · cases h
theorem sqL_rd {a : Addr} {vs : List V} (h : Rd H a (.lst vs)) : SqL K H a vs := .inl h
theorem tupOf_rd (co : Conc K cA W M H) (r : Rv K W v x) {ds : List PyData} (h : tupOf x = some ds) : ∃ a vs, v = .ref a ∧ SqT K H a vs ∧ RpAll K W.G vs ds := by
  cases x with
  | p d =>
    cases d <;> simp only [tupOf] at h <;> try cases h
    cases r with
    | tup hd hr => exact ⟨_, _, rfl, sqT_mono co.sub hd, hr⟩
  | cell b i => simp only [tupOf] at h; cases h
theorem seqOf_rd (co : Conc K cA W M H) (r : Rv K W v x) {ds : List PyData} (h : seqOf M x = some ds) : ∃ a vs, v = .ref a ∧ (SqL K H a vs ∨ SqT K H a vs) ∧ RpAll K W.G vs ds := by
  unfold seqOf at h
  cases q : lstOf M x with
  | some d =>
    rw [q] at h
    cases h
    obtain ⟨a, vs, e, hd, hr⟩ := lstOf_rd co r q
    exact ⟨a, vs, e, .inl (sqL_rd hd), hr⟩
  | none =>
    rw [q] at h
    obtain ⟨a, vs, e, hd, hr⟩ := tupOf_rd co r h
    exact ⟨a, vs, e, .inr hd, hr⟩
theorem strOf_rd (r : Rv K W v x) {s : Str} (h : strOf x = some s) : v = .str s := by
  cases x with
  | p d =>
    cases d <;> simp only [strOf] at h <;> try cases h
    cases r
    rfl
  | cell b i => simp only [strOf] at h; cases h
theorem intOf_rd (r : Rv K W v x) {i : Int} (h : intOf x = some i) : v = .int i := by
  cases x with
  | p d =>
    cases d <;> simp only [intOf] at h <;> try cases h
    cases r
    rfl
  | cell b i => simp only [intOf] at h; cases h
theorem boolOf_rd (r : Rv K W v x) {i : Bool} (h : boolOf x = some i) : v = .bl i := by
  cases x with
  | p d =>
    cases d <;> simp only [boolOf] at h <;> try cases h
    cases r
    rfl
  | cell b i => simp only [boolOf] at h; cases h
/-- a datum in all, cells read -/
def dat (M : Mem) : Dt → Option PyData
  | .p d => some d
  | .cell b i => match M.at_ b i with
    | some (.lst ds) => some (.list ds)
    | _ => none
end

/-! ### Rp and Dp -/
section
variable {K : PySem.W.Frag} {G H : Hp}
mutual
theorem Rp.dp (s : Same G H) : ∀ {v : V} {d : PyData}, Rp K G v d → d.canLay0 = true → Dp K H v d
  | _, _, .non, _ => .non
  | _, _, .bl b, _ => .bl b
  | _, _, .int i, _ => .int i
  | _, _, .str x, _ => .str x
  | _, _, .lst h r, z => .lst (.inl (rd_mono s h)) (RpAll.dp s r (by simpa [PyData.canLay0] using z))
  | _, _, .tup h r, z => .tup (sqT_mono s h) (RpAll.dp s r (by simpa [PyData.canLay0] using z))
  | _, _, .dct h r, z => by simp [PyData.canLay0] at z
theorem RpAll.dp (s : Same G H) : ∀ {vs : List V} {ds : List PyData}, RpAll K G vs ds → PyData.canLayAll0 ds = true → DpAll K H vs ds
  | _, _, .nil, _ => .nil
  | _, _, .cons h r, z => by
    simp only [PyData.canLayAll0, Bool.and_eq_true] at z
    exact .cons (Rp.dp s h z.1) (RpAll.dp s r z.2)
end
end
theorem dat_dp {K : PySem.W.Frag} {cA : Nat → Addr} {W : Wd} {M : Mem} {H : Hp} {v : V} {x : Dt} {d : PyData} (co : Conc K cA W M H) (r : Rv K W v x) (h : dat M x = some d) (z : SeqAt.shaped d = true) : Dp K H v d := by
  cases x with
  | p x =>
    cases h
    exact Rp.dp co.sub r (SeqAt.canLay_of_shaped z)
  | cell b i =>
    obtain ⟨a, rfl, e⟩ := r
    simp only [dat] at h
    split at h
    · rename_i m
      cases h
      obtain ⟨g, vs, hv, hr⟩ := co.ok b i a _ e m trivial
      have zz := SeqAt.canLay_of_shaped z
      simp only [PyData.canLay0] at zz
      exact .lst (.inl (.inl hv)) (RpAll.dp co.sub hr zz)
    · cases h

section
variable {X : Cx} {cA : Nat → Addr} {Wx : WX} {e a b c o : Expr} {f fa fb fc fo : SS → Mem → Rs Dt} {fs : SS → Mem → Rs (List Dt)} {pos p : Pos} {es : List Expr}

/-! ### arithmetic -/
def int2 (C : Int → Int → Prop) [∀ i j, Decidable (C i j)] (g : Int → Int → PyData) : Dt → Dt → Mem → Rs Dt := fun x y M => match intOf x, intOf y with
  | some i, some j => if C i j then .ok (.p (g i j)) M else .st
  | _, _ => .st
theorem od_int {fo : Value → Value → Sem Value} {C : Int → Int → Prop} [∀ i j, Decidable (C i j)] {C' : Int → Int → Prop} {g : Int → Int → PyData} {gv : Int → Int → V} (h : OpR X fo (rI C' gv)) (hc : ∀ i j, C i j → C' i j) (hg : ∀ i j G, Rp X.K G (gv i j) (g i j)) : OpD X cA fo (int2 C g) := by
  refine ⟨_, h, fun W M H x y dx dy Q E co rx ry hp => ?_⟩
  unfold int2 at hp
  split at hp
  · rename_i i j e1 e2
    by_cases z : C i j
    · rw [if_pos z] at hp
      exact ⟨i, j, intOf_rd rx e1, intOf_rd ry e2, hc i j z, hp W _ H (Le.refl W) co (hg i j _)⟩
    · rw [if_neg z] at hp
      exact hp.elim
  · exact hp.elim
theorem od_int0 {fo : Value → Value → Sem Value} {g : Int → Int → PyData} {gv : Int → Int → V} (h : OpR X fo (rI0 gv)) (hg : ∀ i j G, Rp X.K G (gv i j) (g i j)) : OpD X cA fo (int2 (fun _ _ => True) g) := by
  refine ⟨_, h, fun W M H x y dx dy Q E co rx ry hp => ?_⟩
  unfold int2 at hp
  split at hp
  · rename_i i j e1 e2
    rw [if_pos trivial] at hp
    exact ⟨i, j, intOf_rd rx e1, intOf_rd ry e2, hp W _ H (Le.refl W) co (hg i j _)⟩
  · exact hp.elim
def subD := int2 (fun _ _ => True) fun i j => .int (i - j)
theorem od_sub : OpD X cA (binaryOp .Sub) subD := od_int0 op_sub fun _ _ _ => .int _
def CMulB (i j : Int) : Prop := (-(2 ^ 64) < i ∧ i < 2 ^ 64) ∨ (-(2 ^ 64) < j ∧ j < 2 ^ 64)
instance : ∀ i j, Decidable (CMulB i j) := fun i j => by unfold CMulB; infer_instance
def mulD := int2 CMulB fun i j => .int (i * j)
theorem od_mul : OpD X cA (binaryOp .Mult) mulD := od_int op_mul (fun _ _ h => h) fun _ _ _ => .int _
instance : ∀ i j, Decidable (CMulW i j) := fun i j => by unfold CMulW; infer_instance
def mulWD := int2 CMulW fun i j => .int (i * j)
theorem od_mulW : OpD X cA (binaryOp .Mult) mulWD := od_int op_mulW (fun _ _ h => h) fun _ _ _ => .int _
instance : ∀ i j, Decidable (CDiv i j) := fun i j => by unfold CDiv; infer_instance
def fdivD := int2 CDiv fun i j => .int (i / j)
theorem od_fdiv : OpD X cA (binaryOp .FloorDiv) fdivD := od_int op_fdiv (fun _ _ h => h) fun _ _ _ => .int _
instance : ∀ i j, Decidable (CDivW i j) := fun i j => by unfold CDivW; infer_instance
def fdivWD := int2 CDivW fun i j => .int (i / j)
theorem od_fdivW : OpD X cA (binaryOp .FloorDiv) fdivWD := od_int op_fdivW (fun _ _ h => h) fun _ _ _ => .int _
def modD := int2 (fun _ j => 0 < j) fun i j => .int (i % j)
theorem od_mod : OpD X cA (binaryOp .Mod) modD := od_int op_mod (fun _ _ h => h) fun _ _ _ => .int _
instance : ∀ i j, Decidable (CPow i j) := fun i j => by unfold CPow; infer_instance
def powD := int2 CPow fun i j => .int (i ^ j.toNat)
theorem od_pow : OpD X cA (binaryOp .Pow) powD := od_int op_pow (fun _ _ h => h) fun _ _ _ => .int _
def ltD := int2 (fun _ _ => True) fun i j => .bool (decide (i < j))
theorem od_lt : OpD X cA (compareOp .Lt) ltD := od_int0 op_lt fun _ _ _ => .bl _
def leD := int2 (fun _ _ => True) fun i j => .bool (decide (i ≤ j))
theorem od_le : OpD X cA (compareOp .LtE) leD := od_int0 op_le fun _ _ _ => .bl _
def gtD := int2 (fun _ _ => True) fun i j => .bool (decide (j < i))
theorem od_gt : OpD X cA (compareOp .Gt) gtD := od_int0 op_gt fun _ _ _ => .bl _
def geD := int2 (fun _ _ => True) fun i j => .bool (decide (j ≤ i))
theorem od_ge : OpD X cA (compareOp .GtE) geD := od_int0 op_ge fun _ _ _ => .bl _

/-! ### + -/
/-- lists that may be locked -/
def rCatR : R2 := fun x y H Q => ∃ l b xs zs, x = .ref l ∧ y = .ref b ∧ Rd H l (.lst xs) ∧ Rd H b (.lst zs) ∧ xs.length + zs.length ≤ sizeLine ∧ ∀ p, H p = none → Q (.ref p) (upd H p (.lst (xs ++ zs)))
theorem op_catR : OpR X (binaryOp .Add) rCatR := by
  intro pins s σ H x y v u Q I rx ry h
  obtain ⟨l, b, xs, zs, rfl, rfl, hH, hB, hz, q⟩ := h
  cases rx
  cases ry
  obtain ⟨z, its, n, r, e⟩ := hH.ok I.hok
  obtain ⟨z2, its2, n2, r2, e2⟩ := hB.ok I.hok
  have hl := r.length
  have hl2 := r2.length
  refine PySem.P.add_list e e2 ?_ (by rw [List.size_toArray, List.size_toArray]; omega)
  have ea : its.toArray ++ its2.toArray = (its ++ its2).toArray := by simp
  rw [ea]
  exact ⟨.ref _, _, I.lnew (t' := s.toks) (r.append r2) (by rw [List.length_append]; omega), rfl, q _ I.fresh⟩
def addD : Dt → Dt → Mem → Rs Dt := fun x y M => match intOf x, intOf y with
  | some i, some j => .ok (.p (.int (i + j))) M
  | _, _ => match strOf x, strOf y with
    | some s, some t => if s.length + t.length ≤ sizeLine then .ok (.p (.str (s ++ t))) M else .st
    | _, _ => match lstOf M x, lstOf M y with
      | some ds, some es => if ds.length + es.length ≤ sizeLine then .ok (.p (.list (ds ++ es))) M else .st
      | _, _ => match tupOf x, tupOf y with
        | some ds, some es => if ds.length + es.length ≤ sizeLine ∧ ds ≠ [] ∧ es ≠ [] then .ok (.p (.tuple (ds ++ es))) M else .st
        | _, _ => .st
theorem od_add : OpD X cA (binaryOp .Add) addD := by
  refine ⟨_, OpR.or op_add (OpR.or op_add_str (OpR.or op_catR op_catT)), fun W M H x y dx dy Q E co rx ry hp => ?_⟩
  unfold addD at hp
  split at hp
  · rename_i i j e1 e2
    exact .inl ⟨i, j, intOf_rd rx e1, intOf_rd ry e2, hp W _ H (Le.refl W) co (.int _)⟩
  · split at hp
    · rename_i s t e1 e2
      by_cases z : s.length + t.length ≤ sizeLine
      · rw [if_pos z] at hp
        exact .inr (.inl ⟨s, t, strOf_rd rx e1, strOf_rd ry e2, z, hp W _ H (Le.refl W) co (.str _)⟩)
      · rw [if_neg z] at hp
        exact hp.elim
    · split at hp
      · rename_i ds es e1 e2
        by_cases z : ds.length + es.length ≤ sizeLine
        · rw [if_pos z] at hp
          obtain ⟨a1, vs, q1, h1, r1⟩ := lstOf_rd co rx e1
          obtain ⟨a2, ws, q2, h2, r2⟩ := lstOf_rd co ry e2
          refine .inr (.inr (.inl ⟨a1, a2, vs, ws, q1, q2, h1, h2, by rw [r1.length, r2.length]; exact z, fun p hn => ?_⟩))
          exact hp (W.put p (.lst (vs ++ ws))) _ _ (co.lePut hn) (co.put hn) (Rp.lst (.inl upd_same) ((r1.append r2).mono (co.lePut hn).G))
        · rw [if_neg z] at hp
          exact hp.elim
      · split at hp
        · rename_i ds es e1 e2
          by_cases z : ds.length + es.length ≤ sizeLine ∧ ds ≠ [] ∧ es ≠ []
          · rw [if_pos z] at hp
            obtain ⟨a1, vs, q1, h1, r1⟩ := tupOf_rd co rx e1
            obtain ⟨a2, ws, q2, h2, r2⟩ := tupOf_rd co ry e2
            have nv : vs ≠ [] := fun y => z.2.1 (List.length_eq_zero_iff.mp (by rw [← r1.length, y]; rfl))
            have nw : ws ≠ [] := fun y => z.2.2 (List.length_eq_zero_iff.mp (by rw [← r2.length, y]; rfl))
            refine .inr (.inr (.inr ⟨a1, a2, vs, ws, q1, q2, h1, h2, nv, by rw [r1.length, r2.length]; exact z.1, fun y => (nw y).elim, fun _ p hn => ?_⟩))
            exact hp (W.put p (.tup (vs ++ ws))) _ _ (co.lePut hn) (co.put hn) (Rp.tup (.inl (.inl upd_same)) ((r1.append r2).mono (co.lePut hn).G))
          · rw [if_neg z] at hp
            exact hp.elim
        · exact hp.elim

/-! ### ==, in, is -/
def eqD (neg : Bool) : Dt → Dt → Mem → Rs Dt := fun x y M => match strOf x, strOf y with
  | some s, some t => .ok (.p (.bool (if neg then !decide (s = t) else decide (s = t)))) M
  | _, _ => match dat M x, dat M y with
    | some d, some e => if SeqAt.shaped d = true ∧ SeqAt.shaped e = true then .ok (.p (.bool (if neg then !PyData.eqv d e else PyData.eqv d e))) M else .st
    | _, _ => .st
theorem dec_strV (s t : Str) : decide (V.str s = V.str t) = decide (s = t) := by
  by_cases h : s = t
  · rw [h]
    simp
  · rw [decide_eq_false h]
    exact decide_eq_false fun e => h (by cases e; rfl)
theorem od_eq (hu : X.A.units + 64 < cLine) : OpD X cA (compareOp .Eq) (eqD false) := by
  refine ⟨_, OpR.or op_eq (op_eqD hu), fun W M H x y dx dy Q E co rx ry hp => ?_⟩
  unfold eqD at hp
  split at hp
  · rename_i s t e1 e2
    obtain rfl := strOf_rd rx e1
    obtain rfl := strOf_rd ry e2
    refine .inl ⟨rfl, ?_⟩
    rw [dec_strV]
    exact hp W _ H (Le.refl W) co (Rp.bl _)
  · split at hp
    · rename_i d e e1 e2
      by_cases z : SeqAt.shaped d = true ∧ SeqAt.shaped e = true
      · rw [if_pos z] at hp
        exact .inr ⟨d, e, dat_dp co rx e1 z.1, dat_dp co ry e2 z.2, z.1, z.2, hp W _ H (Le.refl W) co (Rp.bl _)⟩
      · rw [if_neg z] at hp
        exact hp.elim
    · exact hp.elim
theorem od_ne (hu : X.A.units + 64 < cLine) : OpD X cA (compareOp .NotEq) (eqD true) := by
  refine ⟨_, OpR.or op_ne (op_neD hu), fun W M H x y dx dy Q E co rx ry hp => ?_⟩
  unfold eqD at hp
  split at hp
  · rename_i s t e1 e2
    obtain rfl := strOf_rd rx e1
    obtain rfl := strOf_rd ry e2
    refine .inl ⟨rfl, ?_⟩
    rw [dec_strV]
    exact hp W _ H (Le.refl W) co (Rp.bl _)
  · split at hp
    · rename_i d e e1 e2
      by_cases z : SeqAt.shaped d = true ∧ SeqAt.shaped e = true
      · rw [if_pos z] at hp
        exact .inr ⟨d, e, dat_dp co rx e1 z.1, dat_dp co ry e2 z.2, z.1, z.2, hp W _ H (Le.refl W) co (Rp.bl _)⟩
      · rw [if_neg z] at hp
        exact hp.elim
    · exact hp.elim
def flatP : PyData → Bool
  | .none => true
  | .bool _ => true
  | .int _ => true
  | .str _ => true
  | _ => false
theorem flat_rp {K : PySem.W.Frag} {G : Hp} {v : V} {d : PyData} (r : Rp K G v d) (h : flatP d = true) : flatV v = true := by
  cases r <;> first | rfl | (simp [flatP] at h)
theorem eqV_rp {K : PySem.W.Frag} {G : Hp} {v w : V} {d e : PyData} (r : Rp K G v d) (r' : Rp K G w e) (h : flatP d = true) (h' : flatP e = true) : eqV v w = PyData.eqv d e := by
  cases r <;> cases r' <;> first | rfl | (simp [flatP] at h; done) | (simp [flatP] at h'; done) | (simp [eqV, PyData.eqv]; done)
theorem flatAll_rp {K : PySem.W.Frag} {G : Hp} : ∀ {vs : List V} {ds : List PyData}, RpAll K G vs ds → ds.all flatP = true → vs.all flatV = true
  | _, _, .nil, _ => rfl
  | _, _, .cons h r, z => by
    simp only [List.all_cons, Bool.and_eq_true] at z ⊢
    exact ⟨flat_rp h z.1, flatAll_rp r z.2⟩
theorem inV_rp {K : PySem.W.Frag} {G : Hp} {v : V} {d : PyData} (r : Rp K G v d) (h : flatP d = true) : ∀ {vs : List V} {ds : List PyData}, RpAll K G vs ds → ds.all flatP = true → inV v vs = ds.any fun y => PyData.eqv y d
  | _, _, .nil, _ => rfl
  | _, _, .cons h' r', z => by
    simp only [List.all_cons, Bool.and_eq_true] at z
    have ih := inV_rp r h r' z.2
    unfold inV at ih ⊢
    rw [List.any_cons, List.any_cons, ih, eqV_rp h' r z.1 h]
def inD (neg : Bool) : Dt → Dt → Mem → Rs Dt := fun x y M => match seqOf M y, x with
  | some ds, .p d => if flatP d = true ∧ ds.all flatP = true then .ok (.p (.bool (if neg then !(ds.any fun y => PyData.eqv y d) else (ds.any fun y => PyData.eqv y d)))) M else .st
  | _, x => match strOf x, strOf y with
    | some s, some t => (match s.cps.toList with
      | [c] => .ok (.p (.bool (if neg then !decide (c ∈ t.cps.toList) else decide (c ∈ t.cps.toList)))) M
      | _ => .st)
    | _, _ => .st
theorem one_sign {s : Str} {c : Nat} (h : s.cps.toList = [c]) : s = ⟨#[c]⟩ := by
  cases s with
  | mk a =>
    have : a = #[c] := by
      apply Array.toList_inj.mp
      exact h
    rw [this]
theorem od_in : OpD X cA (compareOp .In) (inD false) := by
  refine ⟨_, OpR.or op_in_seq op_in_sign, fun W M H x y dx dy Q E co rx ry hp => ?_⟩
  unfold inD at hp
  split at hp
  · rename_i ds d e1
    by_cases z : flatP d = true ∧ ds.all flatP = true
    · rw [if_pos z] at hp
      obtain ⟨a1, vs, q1, h1, r1⟩ := seqOf_rd co ry e1
      refine .inl ⟨a1, vs, q1, h1, flat_rp rx z.1, flatAll_rp r1 z.2, ?_⟩
      rw [inV_rp rx z.1 r1 z.2]
      exact hp W _ H (Le.refl W) co (Rp.bl _)
    · rw [if_neg z] at hp
      exact hp.elim
  · split at hp
    · rename_i s t e1 e2
      split at hp
      · rename_i c hc
        refine .inr ⟨c, t, ?_, strOf_rd ry e2, hp W _ H (Le.refl W) co (Rp.bl _)⟩
        rw [strOf_rd rx e1, one_sign hc]
      · exact hp.elim
    · exact hp.elim
theorem od_notIn : OpD X cA (compareOp .NotIn) (inD true) := by
  refine ⟨_, OpR.or op_notIn_seq op_notIn_sign, fun W M H x y dx dy Q E co rx ry hp => ?_⟩
  unfold inD at hp
  split at hp
  · rename_i ds d e1
    by_cases z : flatP d = true ∧ ds.all flatP = true
    · rw [if_pos z] at hp
      obtain ⟨a1, vs, q1, h1, r1⟩ := seqOf_rd co ry e1
      refine .inl ⟨a1, vs, q1, h1, flat_rp rx z.1, flatAll_rp r1 z.2, ?_⟩
      rw [inV_rp rx z.1 r1 z.2]
      exact hp W _ H (Le.refl W) co (Rp.bl _)
    · rw [if_neg z] at hp
      exact hp.elim
  · split at hp
    · rename_i s t e1 e2
      split at hp
      · rename_i c hc
        refine .inr ⟨c, t, ?_, strOf_rd ry e2, hp W _ H (Le.refl W) co (Rp.bl _)⟩
        rw [strOf_rd rx e1, one_sign hc]
      · exact hp.elim
    · exact hp.elim
def isNone : Dt → Bool
  | .p .none => true
  | _ => false
theorem isNone_rd {K : PySem.W.Frag} {W : Wd} {v : V} {x : Dt} (r : Rv K W v x) : decide (v = .non) = isNone x := by
  cases x with
  | p d => cases d <;> cases r <;> rfl
  | cell b i =>
    obtain ⟨a, rfl, _⟩ := r
    rfl
def isND (neg : Bool) : Dt → Dt → Mem → Rs Dt := fun x y M => if isNone y = true then .ok (.p (.bool (if neg then !isNone x else isNone x))) M else .st
theorem isNone_eq {K : PySem.W.Frag} {W : Wd} {v : V} {x : Dt} (r : Rv K W v x) (h : isNone x = true) : v = .non := by
  rw [← isNone_rd r] at h
  exact of_decide_eq_true h
theorem od_isN : OpD X cA (compareOp .Is) (isND false) := by
  refine ⟨_, op_isN, fun W M H x y dx dy Q E co rx ry hp => ?_⟩
  unfold isND at hp
  by_cases z : isNone dy = true
  · rw [if_pos z] at hp
    refine ⟨isNone_eq ry z, ?_⟩
    rw [isNone_rd rx]
    exact hp W _ H (Le.refl W) co (Rp.bl _)
  · rw [if_neg z] at hp
    exact hp.elim
theorem od_notN : OpD X cA (compareOp .IsNot) (isND true) := by
  refine ⟨_, op_notN, fun W M H x y dx dy Q E co rx ry hp => ?_⟩
  unfold isND at hp
  by_cases z : isNone dy = true
  · rw [if_pos z] at hp
    refine ⟨isNone_eq ry z, ?_⟩
    rw [isNone_rd rx]
    exact hp W _ H (Le.refl W) co (Rp.bl _)
  · rw [if_neg z] at hp
    exact hp.elim
def isBD (neg : Bool) : Dt → Dt → Mem → Rs Dt := fun x y M => match boolOf x, boolOf y with
  | some a, some b => .ok (.p (.bool (if neg then !decide (a = b) else decide (a = b)))) M
  | _, _ => .st
theorem od_isB : OpD X cA (compareOp .Is) (isBD false) := by
  refine ⟨_, op_isBl, fun W M H x y dx dy Q E co rx ry hp => ?_⟩
  unfold isBD at hp
  split at hp
  · rename_i i j e1 e2
    exact ⟨i, j, boolOf_rd rx e1, boolOf_rd ry e2, hp W _ H (Le.refl W) co (Rp.bl _)⟩
  · exact hp.elim
theorem od_notB : OpD X cA (compareOp .IsNot) (isBD true) := by
  refine ⟨_, op_notBl, fun W M H x y dx dy Q E co rx ry hp => ?_⟩
  unfold isBD at hp
  split at hp
  · rename_i i j e1 e2
    exact ⟨i, j, boolOf_rd rx e1, boolOf_rd ry e2, hp W _ H (Le.refl W) co (Rp.bl _)⟩
  · exact hp.elim

/-! ### subscripts -/
def ixD : Dt → Dt → Mem → Rs Dt := fun x y M => match intOf y with
  | none => .st
  | some i => match seqOf M x with
    | some ds => (match atI ds i with
      | some d => .ok (.p d) M
      | none => .st)
    | none => match strOf x with
      | some s => if s.length ≤ sizeLine then (match atI s.cps.toList i with
        | some c => .ok (.p (.str ⟨#[c]⟩)) M
        | none => .st) else .st
      | none => .st
theorem atI_rp {K : PySem.W.Frag} {G : Hp} {vs : List V} {ds : List PyData} {i : Int} {d : PyData} (r : RpAll K G vs ds) (h : atI ds i = some d) : ∃ v, atI vs i = some v ∧ Rp K G v d := by
  unfold atI at h ⊢
  rw [r.length]
  cases q : ixN ds.length i with
  | none =>
    rw [q] at h
    simp at h
  | some j =>
    rw [q] at h
    simp only [Option.bind_some] at h ⊢
    exact r.get' h
theorem ae_ix (ha : AE X cA Wx a fa) (hb : AE X cA Wx b fb) (hs : PlainIx b := by exact fun _ _ => rfl) : AE X cA Wx (.Subscript a b pos) (aOp ixD fa fb) := by
  obtain ⟨ta, pa, ha⟩ := ha
  obtain ⟨tb, pb, hb⟩ := hb
  refine ⟨_, pe_ix ix_seq pa pb hs, aop_core (fun W M H x y dx dy Q E co rx ry hp => ?_) ha hb⟩
  unfold ixD at hp
  split at hp
  · exact hp.elim
  · rename_i i e1
    split at hp
    · rename_i ds e2
      split at hp
      · rename_i d e3
        obtain ⟨a1, vs, q1, h1, r1⟩ := seqOf_rd co rx e2
        obtain ⟨v, h3, r3⟩ := atI_rp r1 e3
        have q := hp W v H (Le.refl W) co r3
        rcases h1 with h1 | h1
        · exact .inl ⟨a1, vs, i, v, q1, intOf_rd ry e1, h1, h3, q⟩
        · exact .inr (.inl ⟨a1, vs, i, v, q1, intOf_rd ry e1, h1, h3, q⟩)
      · exact hp.elim
    · split at hp
      · rename_i s e3
        by_cases z : s.length ≤ sizeLine
        · rw [if_pos z] at hp
          split at hp
          · rename_i c e4
            exact .inr (.inr ⟨s, i, c, strOf_rd rx e3, intOf_rd ry e1, z, e4, hp W _ H (Le.refl W) co (Rp.str _)⟩)
          · exact hp.elim
        · rw [if_neg z] at hp
          exact hp.elim
      · exact hp.elim
/-- a part of a slice -/
structure AO (X : Cx) (cA : Nat → Addr) (Wx : WX) (e : Option Expr) (f : SS → Mem → Rs (Option Int)) : Prop where
  ex : ∃ te, PO X e te ∧ ∀ (W : Wd) (sv : L2.St) (s : SS) (M : Mem) (H : Hp) (Q : Option Int → Hp → Prop), SlOk X.K W sv s → Conc X.K cA W M H → PostG X.K cA (fun _ b a => b = a) (f s M) W Q (fun c d H' => Wx c d sv H') → te sv H Q
def aNone : SS → Mem → Rs (Option Int) := fun _ M => .ok none M
theorem ao_none : AO X cA Wx none aNone := ⟨_, po_none, fun W sv s M H Q so co h => h W none H (Le.refl W) co rfl⟩
def aSome (f : SS → Mem → Rs Dt) : SS → Mem → Rs (Option Int) := fun s M => (f s M).bind fun d M1 => match intOf d with
  | some i => .ok (some i) M1
  | none => .st
theorem ao_some (h : AE X cA Wx e f) : AO X cA Wx (some e) (aSome f) := by
  obtain ⟨te, pe, h⟩ := h
  refine ⟨_, po_some pe, fun W sv s M H Q so co hp => h W sv s M H _ so co (PostG.bind hp fun d M1 W1 v H1 _ l1 c1 r1 h1 => ?_)⟩
  split at h1
  · rename_i i e1
    exact ⟨i, intOf_rd r1 e1, h1 W1 _ H1 (Le.refl _) c1 rfl⟩
  · exact h1.elim
def cutD (ds : List PyData) (lo hi : Option Int) : List PyData := (ds.drop (HT.sIx ds.length 0 lo)).take (HT.sIx ds.length ds.length hi - HT.sIx ds.length 0 lo)
theorem cut_rp {K : PySem.W.Frag} {G : Hp} {vs : List V} {ds : List PyData} {lo hi : Option Int} (r : RpAll K G vs ds) : RpAll K G (cutV vs lo hi) (cutD ds lo hi) := by
  unfold cutV cutD
  rw [r.length]
  exact (r.drop _).take _
def slD : Dt → Option Int → Option Int → Mem → Rs Dt := fun x lo hi M => match lstOf M x with
  | some ds => .ok (.p (.list (cutD ds lo hi))) M
  | none => match strOf x with
    | some s => if s.length ≤ sizeLine then .ok (.p (.str (cutS s lo hi))) M else .st
    | none => match tupOf x with
      | some ds => if HT.sIx ds.length 0 lo = 0 ∧ HT.sIx ds.length ds.length hi = ds.length then .st else .ok (.p (.tuple (cutD ds lo hi))) M
      | none => .st
variable {lo hi : Option Expr} {fl fh : SS → Mem → Rs (Option Int)} {p2 : Pos}
def aSl (f : SS → Mem → Rs Dt) (fl fh : SS → Mem → Rs (Option Int)) : SS → Mem → Rs Dt := fun s M => (f s M).bind fun x M1 => (fl s M1).bind fun l M2 => (fh s M2).bind fun h M3 => slD x l h M3
theorem ae_sl (he : AE X cA Wx e f) (hl : AO X cA Wx lo fl) (hh : AO X cA Wx hi fh) : AE X cA Wx (.Subscript e (.Slice lo hi none p2) pos) (aSl f fl fh) := by
  obtain ⟨te, pe, he⟩ := he
  obtain ⟨tl, pl, hl⟩ := hl
  obtain ⟨th, ph, hh⟩ := hh
  refine ⟨_, pe_slice (SlR.or sl_list (SlR.or sl_str sl_tup)) pe pl ph, fun W sv s M H Q so co h => ?_⟩
  refine he W sv s M H _ so co (PostG.bind h fun d M1 W1 v H1 _ l1 c1 r1 h1 => ?_)
  refine hl W1 sv s M1 H1 _ (so.mono l1) c1 (PostG.bind h1 fun l M2 W2 l' H2 _ l2 c2 r2 h2 => ?_)
  refine hh W2 sv s M2 H2 _ (so.mono (l1.trans l2)) c2 (PostG.bind h2 fun k M3 W3 k' H3 _ l3 c3 r3 h3 => ?_)
  subst r2 r3
  have r1' := (r1.mono l2).mono l3
  unfold slD at h3
  split at h3
  · rename_i ds e1
    obtain ⟨a1, vs, q1, hd, r4⟩ := lstOf_rd c3 r1' e1
    exact .inl ⟨a1, vs, q1, sqL_rd hd, fun p hn => h3 (W3.put p (.lst (cutV vs l' k'))) _ _ (c3.lePut hn) (c3.put hn) (Rp.lst (.inl upd_same) ((cut_rp r4).mono (c3.lePut hn).G))⟩
  · split at h3
    · rename_i z e1
      by_cases y : z.length ≤ sizeLine
      · rw [if_pos y] at h3
        exact .inr (.inl ⟨z, strOf_rd r1' e1, y, h3 W3 _ H3 (Le.refl _) c3 (Rp.str _)⟩)
      · rw [if_neg y] at h3
        exact h3.elim
    · split at h3
      · rename_i ds e1
        obtain ⟨a1, vs, q1, hd, r4⟩ := tupOf_rd c3 r1' e1
        by_cases y : HT.sIx ds.length 0 l' = 0 ∧ HT.sIx ds.length ds.length k' = ds.length
        · rw [if_pos y] at h3
          exact h3.elim
        · rw [if_neg y] at h3
          exact .inr (.inr ⟨a1, vs, q1, hd, by rw [r4.length]; exact y, fun p hn => h3 (W3.put p (.tup (cutV vs l' k'))) _ _ (c3.lePut hn) (c3.put hn) (Rp.tup (.inl (.inl upd_same)) ((cut_rp r4).mono (c3.lePut hn).G))⟩)
      · exact h3.elim
/-- a slice of a list, as a new list -/
def aSlL (f : SS → Mem → Rs Dt) (fl fh : SS → Mem → Rs (Option Int)) : SS → Mem → Rs (List PyData) := fun s M => (f s M).bind fun x M1 => (fl s M1).bind fun l M2 => (fh s M2).bind fun h M3 => match lstOf M3 x with
  | some ds => .ok (cutD ds l h) M3
  | none => .st
def PostL (X : Cx) (cA : Nat → Addr) (r : Rs (List PyData)) (W : Wd) (Q : VK) (E : XK) : Prop := match r with
  | .ok ds M' => ∀ (W' : Wd) (vs : List V) (p : Addr) (H' : Hp), Le W W' → Conc X.K cA W' M' H' → RpAll X.K W'.G vs ds → H' p = none → Q (.ref p) (upd H' p (.lst vs))
  | .ex c M' => ∀ (W' : Wd) (H' : Hp) (cls : Value) (dd : Option Addr), Le W W' → Conc X.K cA W' M' H' → ExOk X.K cA W' H' c cls dd → E cls dd H'
  | .st => False
theorem PostL.mono {r : Rs (List PyData)} {W W1 : Wd} {Q : VK} {E : XK} (l : Le W W1) (h : PostL X cA r W Q E) : PostL X cA r W1 Q E := by
  cases r with
  | ok a M => exact fun W' vs p H' l' => h W' vs p H' (l.trans l')
  | ex c M => exact fun W' H' cls dd l' => h W' H' cls dd (l.trans l')
  | st => exact h
theorem PostL.bind {α β : Type} {R : Wd → β → α → Prop} {r : Rs α} {k : α → Mem → Rs (List PyData)} {W : Wd} {Q : VK} {Q' : β → Hp → Prop} {E : XK}
    (h : PostL X cA (r.bind k) W Q E) (f : ∀ (a : α) (M : Mem) (W1 : Wd) (b : β) (H1 : Hp), r = .ok a M → Le W W1 → Conc X.K cA W1 M H1 → R W1 b a → PostL X cA (k a M) W1 Q E → Q' b H1) : PostG X.K cA R r W Q' E := by
  cases r with
  | ok a M => exact fun W1 b H1 l c q => f a M W1 b H1 rfl l c q (PostL.mono l h)
  | ex c M => exact h
  | st => exact h.elim
theorem al_mk {g : SS → Mem → Rs (List PyData)} {te : TE} (pe : PE X e te) (h : ∀ (W : Wd) (sv : L2.St) (s : SS) (M : Mem) (H : Hp) (Q : VK), SlOk X.K W sv s → Conc X.K cA W M H → PostL X cA (g s M) W Q (fun c d H' => Wx c d sv H') → te sv H Q) : AL X cA Wx e g := by
  refine ⟨te, pe, fun W sv s M H Q so co hp => h W sv s M H Q so co ?_⟩
  unfold PostL
  exact hp
theorem al_sl (he : AE X cA Wx e f) (hl : AO X cA Wx lo fl) (hh : AO X cA Wx hi fh) : AL X cA Wx (.Subscript e (.Slice lo hi none p2) pos) (aSlL f fl fh) := by
  obtain ⟨te, pe, he⟩ := he
  obtain ⟨tl, pl, hl⟩ := hl
  obtain ⟨th, ph, hh⟩ := hh
  refine al_mk (pe_slice sl_list pe pl ph) fun W sv s M H Q so co h => ?_
  refine he W sv s M H _ so co (PostL.bind h fun d M1 W1 v H1 _ l1 c1 r1 h1 => ?_)
  refine hl W1 sv s M1 H1 _ (so.mono l1) c1 (PostL.bind h1 fun l M2 W2 l' H2 _ l2 c2 r2 h2 => ?_)
  refine hh W2 sv s M2 H2 _ (so.mono (l1.trans l2)) c2 (PostL.bind h2 fun k M3 W3 k' H3 _ l3 c3 r3 h3 => ?_)
  subst r2 r3
  have r1' := (r1.mono l2).mono l3
  split at h3
  · rename_i ds e1
    obtain ⟨a1, vs, q1, hd, r4⟩ := lstOf_rd c3 r1' e1
    exact ⟨a1, vs, q1, sqL_rd hd, fun p hn => h3 W3 _ p H3 (Le.refl _) c3 (cut_rp r4) hn⟩
  · exact h3.elim
/-- a sum of two lists, as a new list -/
def aCat (fa fb : SS → Mem → Rs Dt) : SS → Mem → Rs (List PyData) := fun s M => (fa s M).bind fun x M1 => (fb s M1).bind fun y M2 => match lstOf M2 x, lstOf M2 y with
  | some ds, some es => if ds.length + es.length ≤ sizeLine then .ok (ds ++ es) M2 else .st
  | _, _ => .st
theorem al_cat (ha : AE X cA Wx a fa) (hb : AE X cA Wx b fb) : AL X cA Wx (.BinOp a .Add b pos) (aCat fa fb) := by
  obtain ⟨ta, pa, ha⟩ := ha
  obtain ⟨tb, pb, hb⟩ := hb
  refine al_mk (pe_op op_catR pa pb) fun W sv s M H Q so co h => ?_
  refine ha W sv s M H _ so co (PostL.bind h fun dx M1 W1 x H1 _ l1 c1 rx h1 => ?_)
  refine hb W1 sv s M1 H1 _ (so.mono l1) c1 (PostL.bind h1 fun dy M2 W2 y H2 _ l2 c2 ry h2 => ?_)
  split at h2
  · rename_i ds es e1 e2
    by_cases z : ds.length + es.length ≤ sizeLine
    · rw [if_pos z] at h2
      obtain ⟨a1, vs, q1, k1, r1⟩ := lstOf_rd c2 (rx.mono l2) e1
      obtain ⟨a2, ws, q2, k2, r2⟩ := lstOf_rd c2 ry e2
      exact ⟨a1, a2, vs, ws, q1, q2, k1, k2, by rw [r1.length, r2.length]; exact z, fun p hn => h2 W2 _ p H2 (Le.refl _) c2 (r1.append r2) hn⟩
    · rw [if_neg z] at h2
      exact h2.elim
  · exact h2.elim

/-! ### built-ins -/
def CallD (X : Cx) (cA : Nat → Addr) (f : Value) (g : List Dt → Mem → Rs Dt) : Prop :=
  ∃ r, CallR X f r ∧ ∀ (W : Wd) (M : Mem) (H : Hp) (vs : List V) (ds : List Dt) (Q : VK) (E : XK), Conc X.K cA W M H → RvAll X.K W vs ds → PostG X.K cA (Rv X.K) (g ds M) W Q E → r vs H Q
def aCB (g : List Dt → Mem → Rs Dt) (fs : SS → Mem → Rs (List Dt)) : SS → Mem → Rs Dt := fun s M => (fs s M).bind fun xs M1 => g xs M1
variable {x : Str} {id : String} {g : List Dt → Mem → Rs Dt}
theorem ae_callB (hc : CallD X cA (.builtin id) g) (hg : Gl X x) (hm : X.mg x = none) (hv : bootBuiltins x = some (.builtin id)) (ha : AA X cA Wx (e :: es) fs) (hn : x ≠ "__name__" := by decide) (hdb : (x == ("__debug__" : Str)) = false := by decide)
    (he : starEach (e :: es) X.env = (false, eval e X.env) :: starEach es X.env := by rfl) (hpl : (backTo pos (starEach es X.env)).any (·.1) = false := by rfl) : AE X cA Wx (.Call (.Name x p) (e :: es) [] pos) (aCB g fs) := by
  obtain ⟨r, hr, hc⟩ := hc
  obtain ⟨ta, pa, ha⟩ := ha
  exact ⟨_, pe_callB hr hg hm hv pa hn hdb he hpl, fun W sv s M H Q so co h => ha W sv s M H _ so co (PostG.bind h fun xs M1 W1 vs H1 _ l1 c1 r1 h1 => hc W1 M1 H1 vs xs Q _ c1 r1 h1)⟩
theorem ae_callTy {T : String} (hc : CallD X cA (.type T) g) (hg : Gl X x) (hm : X.mg x = none) (hv : bootBuiltins x = some (.type T)) (ha : AA X cA Wx (e :: es) fs) (hn : x ≠ "__name__" := by decide) (hdb : (x == ("__debug__" : Str)) = false := by decide)
    (he : starEach (e :: es) X.env = (false, eval e X.env) :: starEach es X.env := by rfl) (hpl : (backTo pos (starEach es X.env)).any (·.1) = false := by rfl) : AE X cA Wx (.Call (.Name x p) (e :: es) [] pos) (aCB g fs) := by
  obtain ⟨r, hr, hc⟩ := hc
  obtain ⟨ta, pa, ha⟩ := ha
  exact ⟨_, pe_callTy hr hg hm hv pa hn hdb he hpl, fun W sv s M H Q so co h => ha W sv s M H _ so co (PostG.bind h fun xs M1 W1 vs H1 _ l1 c1 r1 h1 => hc W1 M1 H1 vs xs Q _ c1 r1 h1)⟩
theorem rv1 {K : PySem.W.Frag} {W : Wd} {vs : List V} {d : Dt} (h : RvAll K W vs [d]) : ∃ v, vs = [v] ∧ Rv K W v d := by
  cases h with
  | cons h r =>
    cases r
    exact ⟨_, rfl, h⟩
theorem rv2 {K : PySem.W.Frag} {W : Wd} {vs : List V} {d e : Dt} (h : RvAll K W vs [d, e]) : ∃ v w, vs = [v, w] ∧ Rv K W v d ∧ Rv K W w e := by
  cases h with
  | cons h r =>
    obtain ⟨w, rfl, h2⟩ := rv1 r
    exact ⟨_, _, rfl, h, h2⟩
def lenD : List Dt → Mem → Rs Dt
  | [x], M => (match seqOf M x with
    | some ds => .ok (.p (.int ds.length)) M
    | none => match strOf x with
      | some s => if s.length ≤ sizeLine then .ok (.p (.int s.length)) M else .st
      | none => .st)
  | _, _ => .st
theorem cd_len : CallD X cA (.builtin "len") lenD := by
  refine ⟨_, CallR.or call_len_seq call_len_str, fun W M H vs ds Q E co r hp => ?_⟩
  unfold lenD at hp
  split at hp
  · rename_i x M
    obtain ⟨v, rfl, rx⟩ := rv1 r
    split at hp
    · rename_i ds e1
      obtain ⟨a1, vs, rfl, h1, r1⟩ := seqOf_rd co rx e1
      exact .inl ⟨a1, vs, rfl, h1, by rw [r1.length]; exact hp W _ H (Le.refl W) co (Rp.int _)⟩
    · split at hp
      · rename_i s e1
        by_cases z : s.length ≤ sizeLine
        · rw [if_pos z] at hp
          exact .inr ⟨s, by rw [strOf_rd rx e1], z, hp W _ H (Le.refl W) co (Rp.int _)⟩
        · rw [if_neg z] at hp
          exact hp.elim
      · exact hp.elim
  · exact hp.elim
def absD : List Dt → Mem → Rs Dt
  | [x], M => (match intOf x with
    | some i => .ok (.p (.int (if i < 0 then -i else i))) M
    | none => .st)
  | _, _ => .st
theorem cd_abs : CallD X cA (.builtin "abs") absD := by
  refine ⟨_, call_abs, fun W M H vs ds Q E co r hp => ?_⟩
  unfold absD at hp
  split at hp
  · obtain ⟨v, rfl, rx⟩ := rv1 r
    split at hp
    · rename_i i e1
      exact ⟨i, by rw [intOf_rd rx e1], hp W _ H (Le.refl W) co (Rp.int _)⟩
    · exact hp.elim
  · exact hp.elim
def max2D : List Dt → Mem → Rs Dt
  | [x, y], M => (match intOf x, intOf y with
    | some i, some j => .ok (.p (.int (if j > i then j else i))) M
    | _, _ => .st)
  | _, _ => .st
theorem cd_max2 (hc : X.calm = true) : CallD X cA (.builtin "max") max2D := by
  refine ⟨_, call_max2 hc, fun W M H vs ds Q E co r hp => ?_⟩
  unfold max2D at hp
  split at hp
  · obtain ⟨v, w, rfl, rx, ry⟩ := rv2 r
    split at hp
    · rename_i i j e1 e2
      exact ⟨i, j, by rw [intOf_rd rx e1, intOf_rd ry e2], hp W _ H (Le.refl W) co (Rp.int _)⟩
    · exact hp.elim
  · exact hp.elim
def min2D : List Dt → Mem → Rs Dt
  | [x, y], M => (match intOf x, intOf y with
    | some i, some j => .ok (.p (.int (if j < i then j else i))) M
    | _, _ => .st)
  | _, _ => .st
theorem cd_min2 (hc : X.calm = true) : CallD X cA (.builtin "min") min2D := by
  refine ⟨_, call_min2 hc, fun W M H vs ds Q E co r hp => ?_⟩
  unfold min2D at hp
  split at hp
  · obtain ⟨v, w, rfl, rx, ry⟩ := rv2 r
    split at hp
    · rename_i i j e1 e2
      exact ⟨i, j, by rw [intOf_rd rx e1, intOf_rd ry e2], hp W _ H (Le.refl W) co (Rp.int _)⟩
    · exact hp.elim
  · exact hp.elim
def intD : List Dt → Mem → Rs Dt
  | [x], M => (match intOf x with
    | some i => .ok (.p (.int i)) M
    | none => match boolOf x with
      | some b => .ok (.p (.int (if b then 1 else 0))) M
      | none => .st)
  | _, _ => .st
theorem cd_int : CallD X cA (.type "int") intD := by
  refine ⟨_, call_int1, fun W M H vs ds Q E co r hp => ?_⟩
  unfold intD at hp
  split at hp
  · obtain ⟨v, rfl, rx⟩ := rv1 r
    split at hp
    · rename_i i e1
      exact .inl ⟨i, by rw [intOf_rd rx e1], hp W _ H (Le.refl W) co (Rp.int _)⟩
    · split at hp
      · rename_i b e1
        exact .inr ⟨b, by rw [boolOf_rd rx e1], hp W _ H (Le.refl W) co (Rp.int _)⟩
      · exact hp.elim
  · exact hp.elim
/-- list(xs), a new list -/
def aListOf (f : SS → Mem → Rs Dt) : SS → Mem → Rs (List PyData) := fun s M => (f s M).bind fun x M1 => match seqOf M1 x with
  | some ds => .ok ds M1
  | none => .st
theorem al_list (ha : AE X cA Wx e f) (hg : Gl X "list") (hm : X.mg "list" = none) (hst : starEach [e] X.env = (false, eval e X.env) :: starEach [] X.env := by rfl) : AL X cA Wx (.Call (.Name "list" p) [e] [] pos) (aListOf f) := by
  obtain ⟨te, pe, h⟩ := ha
  refine al_mk (pe_callTy call_list_of hg hm (by decide +kernel) (pa_cons pe pa_nil hst) (by decide) (by decide) hst) fun W sv s M H Q so co hp => ?_
  refine h W sv s M H _ so co (PostL.bind hp fun d M1 W1 v H1 _ l1 c1 r1 h1 => ?_)
  split at h1
  · rename_i ds e1
    obtain ⟨a1, vs, rfl, k1, r2⟩ := seqOf_rd c1 r1 e1
    exact ⟨a1, vs, rfl, k1, fun l hl => h1 W1 vs l H1 (Le.refl _) c1 r2 hl⟩
  · exact h1.elim
end
end DL

set_option Elab.async false
set_option linter.all false
set_option maxRecDepth 100000
/-! DL4: targets, stores, methods of lists, dicts, fields, loops, comprehensions. -/
namespace DL
open PySem PySem.Spec PyProof.Rows L2

section
variable {X : Cx} {cA : Nat → Addr} {Wx : WX} {e a b c o : Expr} {f fa fb fc fo fi : SS → Mem → Rs Dt} {fs : SS → Mem → Rs (List Dt)} {pos pos' p : Pos} {es : List Expr}

/-! ### targets -/
/-- outside ix the slots stay -/
def SlSame (ix : List Nat) (sv sv' : L2.St) : Prop := sv'.length = sv.length ∧ ∀ i, i ∉ ix → sv'[i]? = sv[i]?
theorem SlSame.refl (ix : List Nat) (sv : L2.St) : SlSame ix sv sv := ⟨rfl, fun _ _ => rfl⟩
theorem SlSame.trans {ix jx : List Nat} {a b c : L2.St} (h : SlSame ix a b) (h' : SlSame jx b c) : SlSame (ix ++ jx) a c :=
  ⟨h'.1.trans h.1, fun i hi => (h'.2 i fun z => hi (List.mem_append_right _ z)).trans (h.2 i fun z => hi (List.mem_append_left _ z))⟩
structure AG (X : Cx) (cA : Nat → Addr) (tg : Expr) (ix : List Nat) (g : Dt → SS → Option SS) : Prop where
  ex : ∃ t, PG X tg t ∧ ∀ (W : Wd) (sv : L2.St) (s s' : SS) (M : Mem) (H : Hp) (v : V) (d : Dt) (Q : L2.St → Hp → Prop), SlOk X.K W sv s → Conc X.K cA W M H → Rv X.K W v d → g d s = some s' → (∀ sv', SlOk X.K W sv' s' → SlSame ix sv sv' → Q sv' H) → t v sv H Q
def gN (i : Nat) : Dt → SS → Option SS := fun d s => some (s.set i (some d))
theorem ag_name {i : Nat} {x : Str} (hN : X.N.Nodup) (hi : X.N[i]? = some x) (hx : Loc X.env.scope x) (hf : X.fn x = true ∨ X.env.scope.names.lookup x = some .local := by first | exact .inl rfl | exact .inr rfl | assumption) : AG X cA (.Name x pos) [i] (gN i) :=
  ⟨_, pg_name hN hi hx hf, fun W sv s s' M H v d Q so co r e q => by
    cases e
    refine q _ (so.set i r) ⟨by simp, fun j hj => ?_⟩
    rw [List.getElem?_set_ne (fun z => hj (by simp [z]))]⟩
structure AGs (X : Cx) (cA : Nat → Addr) (tg : List Expr) (ix : List Nat) (g : List PyData → SS → Option SS) : Prop where
  ex : ∃ t, PGs X tg t ∧ ∀ (W : Wd) (sv : L2.St) (s s' : SS) (M : Mem) (H : Hp) (v : List V) (d : List PyData) (Q : L2.St → Hp → Prop), SlOk X.K W sv s → Conc X.K cA W M H → RpAll X.K W.G v d → g d s = some s' → (∀ sv', SlOk X.K W sv' s' → SlSame ix sv sv' → Q sv' H) → t v sv H Q
def gsNil : List PyData → SS → Option SS
  | [], s => some s
  | _ :: _, _ => none
def gsCons (g : Dt → SS → Option SS) (r : List PyData → SS → Option SS) : List PyData → SS → Option SS
  | [], _ => none
  | d :: ds, s => match g (.p d) s with
    | some s1 => r ds s1
    | none => none
theorem ags_nil : AGs X cA [] [] gsNil := ⟨_, pgs_nil, fun W sv s s' M H v d Q so co r e q => by
  cases r with
  | nil =>
    cases e
    exact ⟨rfl, q sv so (SlSame.refl _ _)⟩
  | cons _ _ => cases e⟩
theorem ags_cons {ix jx : List Nat} {g : Dt → SS → Option SS} {r : List PyData → SS → Option SS} (h : AG X cA e ix g) (hr : AGs X cA es jx r)
    (hs : (assignEach (e :: es) X.env).map (·.2) = assign e X.env :: (assignEach es X.env).map (·.2) := by rfl) : AGs X cA (e :: es) (ix ++ jx) (gsCons g r) := by
  obtain ⟨t, pt, h⟩ := h
  obtain ⟨u, pu, hr⟩ := hr
  refine ⟨_, pgs_cons pt pu hs, fun W sv s s' M H v d Q so co rr z q => ?_⟩
  cases rr with
  | nil => cases z
  | cons r1 r2 =>
    rename_i v vs d ds
    simp only [gsCons] at z
    split at z
    · rename_i s1 e1
      exact ⟨v, vs, rfl, h W sv s s1 M H v (.p d) _ so co r1 e1 fun sv1 so1 z1 => hr W sv1 s1 s' M H vs ds Q so1 co r2 z fun sv2 so2 z2 => q sv2 so2 (z1.trans z2)⟩
    · cases z
def gTupD (n : Nat) (g : List PyData → SS → Option SS) : Dt → SS → Option SS := fun d s => match tupOf d with
  | some ds => if ds.length = n then g ds s else none
  | none => none
theorem ag_tup {k : Nat} (n : Nat) {ix : List Nat} {g : List PyData → SS → Option SS} (hc : X.calm = true) (h : AGs X cA es ix g) (hn : (assignEach es X.env).length = n := by rfl) (hst : (assignEach es X.env).findIdx? (·.1) = none := by rfl) : AG X cA (.Tuple es k pos) ix (gTupD n g) := by
  obtain ⟨t, pt, h⟩ := h
  refine ⟨_, pg_tup hc pt hn hst, fun W sv s s' M H v d Q so co r z q => ?_⟩
  unfold gTupD at z
  split at z
  · rename_i ds e1
    by_cases y : ds.length = n
    · rw [if_pos y] at z
      obtain ⟨a1, vs, rfl, h1, r1⟩ := tupOf_rd co r e1
      exact ⟨a1, vs, rfl, h1, by rw [r1.length, y], h W sv s s' M H vs ds Q so co r1 z q⟩
    · rw [if_neg y] at z
      cases z
  · cases z
/-- target = e, the target names -/
def aAsg (g : Dt → SS → Option SS) (f : SS → Mem → Rs Dt) : SS → Mem → Rs Fl := fun s M => (f s M).bind fun d M1 => match g d s with
  | some s1 => .ok (.nx s1) M1
  | none => .st
theorem as_asg {tg : Expr} {ix : List Nat} {g : Dt → SS → Option SS} (he : AE X cA Wx e f) (hg : AG X cA tg ix g) (hs : swapsWithSole [tg] e pos.line X.env = pure false := by rfl) (hw : swappedStores [tg] e X.env = pure none := by rfl)
    (h1 : (assignEach [tg] X.env).map (·.2) = [assign tg X.env] := by rfl) : AS X cA Wx (.Assign [tg] e pos) (aAsg g f) := by
  obtain ⟨te, pe, he⟩ := he
  obtain ⟨t, pt, hg⟩ := hg
  refine ⟨_, ps_asg pe pt hs hw h1, fun W sv s M H D so co hp => he W sv s M H _ so co (PostS.bind hp fun d M1 W1 v H1 _ l1 c1 r1 h1 => ?_)⟩
  split at h1
  · rename_i s1 e1
    exact hg W1 sv s s1 M1 H1 v d _ (so.mono l1) c1 r1 e1 fun sv' so' _ => h1 W1 sv' H1 (Le.refl _) c1 so'
  · exact h1.elim

/-! ### xs[i] = e -/
def setIx : Dt → Dt → Dt → Mem → Rs Unit := fun o i v M => (toP v M).bind fun d M1 => match o, intOf i with
  | .cell q n, some k => (match M1.at_ q n with
    | some (.lst ds) => (match ixN ds.length k with
      | some j => .ok () (M1.set q n (.lst (ds.set j d)))
      | none => .st)
    | _ => .st)
  | _, _ => .st
def aSetIx (f fo fi : SS → Mem → Rs Dt) : SS → Mem → Rs Fl := fun s M => (f s M).bind fun v M1 => (fo s M1).bind fun o M2 => (fi s M2).bind fun i M3 => (setIx o i v M3).bind fun _ M4 => .ok (.nx s) M4
theorem PostS.toP {K : PySem.W.Frag} {x : Dt} {v : V} {M : Mem} {W : Wd} {H : Hp} {k : PyData → Mem → Rs Fl} {D : Ends} {A : Prop} (co : Conc K cA W M H) (r : Rv K W v x) (h : PostS K cA ((toP x M).bind k) W D Wx)
    (g : ∀ (d : PyData) (M1 : Mem) (W1 : Wd), Le W W1 → Conc K cA W1 M1 H → Rp K W1.G v d → PostS K cA (k d M1) W1 D Wx → A) : A := by
  cases q : DL.toP x M with
  | ok d M1 =>
    obtain ⟨W1, l1, c1, r1⟩ := toP_ok co r q
    rw [q] at h
    exact g d M1 W1 l1 c1 r1 (PostS.mono l1 h)
  | ex c M1 => exact (toP_ex q).elim
  | st =>
    rw [q] at h
    exact h.elim
theorem as_setIx (hv : AE X cA Wx e f) (ho : AE X cA Wx o fo) (hi : AE X cA Wx a fi) (hs : swapsWithSole [.Subscript o a pos'] e pos.line X.env = pure false := by rfl) (hw : swappedStores [.Subscript o a pos'] e X.env = pure none := by rfl)
    (h1 : (assignEach [.Subscript o a pos'] X.env).map (·.2) = [assign (.Subscript o a pos') X.env] := by rfl)
    (ha : ∀ v, assign (.Subscript o a pos') X.env v = (do
      let ov ← holding [v] (eval o X.env)
      let iv ← holding [v, ov] (eval a X.env)
      standAt pos'
      holding [v, ov, iv] (setItem ov iv v)
      release [v, ov, iv] []) := by intro _; rfl) : AS X cA Wx (.Assign [.Subscript o a pos'] e pos) (aSetIx f fo fi) := by
  obtain ⟨te, pe, hv⟩ := hv
  obtain ⟨to, po, ho⟩ := ho
  obtain ⟨ti, pi, hi⟩ := hi
  refine ⟨_, ps_asg pe (pg_sub po pi set_list ha) hs hw h1, fun W sv s M H D so co h => ?_⟩
  refine hv W sv s M H _ so co (PostS.bind h fun v M1 W1 vv H1 _ l1 c1 r1 h1 => ?_)
  refine ho W1 sv s M1 H1 _ (so.mono l1) c1 (PostS.bind h1 fun o M2 W2 ov H2 _ l2 c2 r2 h2 => ?_)
  refine hi W2 sv s M2 H2 _ (so.mono (l1.trans l2)) c2 (PostS.bind h2 fun i M3 W3 iv H3 _ l3 c3 r3 h3 => ?_)
  unfold setIx at h3
  cases q : toP v M3 with
  | ok d M4 =>
    obtain ⟨W4, l4, c4, r4⟩ := toP_ok c3 (r1.mono (l2.trans l3)) q
    rw [q] at h3
    simp only [Rs.bind] at h3
    cases o with
    | p o => exact h3.elim
    | cell qq n =>
      cases e1 : intOf i with
      | none =>
        rw [e1] at h3
        exact h3.elim
      | some k =>
        rw [e1] at h3
        simp only at h3
        cases e2 : M4.at_ qq n with
        | none =>
          rw [e2] at h3
          exact h3.elim
        | some cc =>
          rw [e2] at h3
          cases cc with
          | lst ds =>
            simp only at h3
            cases e3 : ixN ds.length k with
            | none =>
              rw [e3] at h3
              exact h3.elim
            | some j =>
              rw [e3] at h3
              obtain ⟨a1, rfl, z⟩ := r2.mono (l3.trans l4)
              obtain ⟨g, vs, hv1, hr⟩ := c4.ok qq n a1 _ z e2 trivial
              refine ⟨a1, vs, k, j, rfl, intOf_rd r3 e1, hv1, by rw [hr.length]; exact e3, ?_⟩
              refine h3 W4 sv _ l4 (c4.set z e2 trivial (fun b hb _ => upd_ne hb) (by rw [upd_same]; intro y; cases y) fun _ => ⟨_, upd_same, hr.set j r4⟩) (so.mono ((l1.trans l2).trans (l3.trans l4)))
          | _ => exact h3.elim
  | ex c M4 => exact (toP_ex q).elim
  | st =>
    rw [q] at h3
    exact h3.elim

/-! ### methods of lists -/
def MtD (X : Cx) (cA : Nat → Addr) (id : String) (g : Dt → List Dt → Mem → Rs Dt) : Prop :=
  ∃ r, MtR X id r ∧ ∀ (W : Wd) (M : Mem) (H : Hp) (v : V) (x : Dt) (vs : List V) (ds : List Dt) (Q : VK) (E : XK), Conc X.K cA W M H → Rv X.K W v x → RvAll X.K W vs ds → PostG X.K cA (Rv X.K) (g x ds M) W Q E → r v vs H Q
def aML (g : Dt → List Dt → Mem → Rs Dt) (fo : SS → Mem → Rs Dt) (fs : SS → Mem → Rs (List Dt)) : SS → Mem → Rs Dt := fun s M => (fo s M).bind fun x M1 => match lstOf M1 x with
  | some _ => (fs s M1).bind fun xs M2 => g x xs M2
  | none => .st
variable {id : String} {name : Str} {g : Dt → List Dt → Mem → Rs Dt} {apos cpos : Pos}
theorem ae_ml (slot : Slot "list" name id) (hty : typeOf (.builtin id) = pure (.type "method_descriptor")) (hm : MtD X cA id g) (ho : AE X cA Wx o fo) (ha : AA X cA Wx (e :: es) fs)
    (hbase : attributeBase o name X.env (eval o X.env) = eval o X.env := by rfl)
    (hfew : ((backTo cpos (starEach (e :: es) X.env)).all (fun x => !x.1) && (backToKw cpos (keywordEach [] X.env)).all (fun x => x.1.isSome)
      && decide ((e :: es).length + ([] : List Keyword).length + (if ([] : List Keyword).isEmpty then 0 else 1) < 30)) = true := by rfl)
    (hline : (apos.endLine == cpos.line) = true := by rfl) (hs : starEach (e :: es) X.env = (false, eval e X.env) :: starEach es X.env := by rfl) (hplain : (backTo cpos (starEach es X.env)).any (·.1) = false := by rfl) :
    AE X cA Wx (.Call (.Attribute o name apos) (e :: es) [] cpos) (aML g fo fs) := by
  obtain ⟨r, hr, hm⟩ := hm
  obtain ⟨to, po, ho⟩ := ho
  obtain ⟨ta, pa, ha⟩ := ha
  refine ⟨_, pe_bm PySem.F.plainAttrs_list slot hty hr po pa hbase hfew hline hs hplain, fun W sv s M H Q so co h => ?_⟩
  refine ho W sv s M H _ so co (PostG.bind h fun x M1 W1 v H1 _ l1 c1 r1 h1 => ?_)
  split at h1
  · rename_i ds e1
    obtain ⟨a1, vs, rfl, k1, _⟩ := lstOf_rd c1 r1 e1
    refine ⟨.inl ⟨rfl, vs, sqL_rd k1⟩, ?_⟩
    exact ha W1 sv s M1 H1 _ (so.mono l1) c1 (PostG.bind h1 fun xs M2 W2 vs H2 _ l2 c2 r2 h2 => hm W2 M2 H2 _ x vs xs Q _ c2 (r1.mono l2) r2 h2)
  · exact h1.elim
theorem ae_ml0 (slot : Slot "list" name id) (hty : typeOf (.builtin id) = pure (.type "method_descriptor")) (hm : MtD X cA id g) (ho : AE X cA Wx o fo)
    (hbase : attributeBase o name X.env (eval o X.env) = eval o X.env := by rfl) (hline : (apos.endLine == cpos.line) = true := by rfl) :
    AE X cA Wx (.Call (.Attribute o name apos) [] [] cpos) (aML g fo aNil) := by
  obtain ⟨r, hr, hm⟩ := hm
  obtain ⟨to, po, ho⟩ := ho
  refine ⟨_, pe_bm0 PySem.F.plainAttrs_list slot hty hr po hbase hline, fun W sv s M H Q so co h => ?_⟩
  refine ho W sv s M H _ so co (PostG.bind h fun x M1 W1 v H1 _ l1 c1 r1 h1 => ?_)
  split at h1
  · rename_i ds e1
    obtain ⟨a1, vs, rfl, k1, _⟩ := lstOf_rd c1 r1 e1
    exact ⟨.inl ⟨rfl, vs, sqL_rd k1⟩, hm W1 M1 H1 _ x [] [] Q _ c1 r1 .nil h1⟩
  · exact h1.elim
def appendD : Dt → List Dt → Mem → Rs Dt
  | .cell q n, [y], M => (toP y M).bind fun d M1 => (match M1.at_ q n with
    | some (.lst ds) => if ds.length < sizeLine then .ok (.p .none) (M1.set q n (.lst (ds ++ [d]))) else .st
    | _ => .st)
  | _, _, _ => .st
theorem md_append : MtD X cA "list.append" appendD := by
  refine ⟨_, mt_append, fun W M H v x vs ds Q E co rx r hp => ?_⟩
  unfold appendD at hp
  split at hp
  · rename_i q n y
    obtain ⟨w, rfl, ry⟩ := rv1 r
    refine toP_bind co ry hp fun d M1 W1 l1 c1 r1 h1 => ?_
    split at h1
    · rename_i ds e1
      by_cases z : ds.length < sizeLine
      · rw [if_pos z] at h1
        obtain ⟨a1, rfl, e2⟩ := rx.mono l1
        obtain ⟨g, vs, hv1, hr⟩ := c1.ok q n a1 _ e2 e1 trivial
        refine ⟨a1, vs, w, rfl, rfl, hv1, by rw [hr.length]; exact z, ?_⟩
        exact h1 W1 .non _ (Le.refl _) (c1.set e2 e1 trivial (fun b hb _ => upd_ne hb) (by rw [upd_same]; intro y; cases y) fun _ => ⟨_, upd_same, hr.snoc r1⟩) Rp.non
      · rw [if_neg z] at h1
        exact h1.elim
    · exact h1.elim
  · exact hp.elim
def popD : Dt → List Dt → Mem → Rs Dt
  | .cell q n, [], M => (match M.at_ q n with
    | some (.lst ds) => (match ds[ds.length - 1]? with
      | some d => .ok (.p d) (M.set q n (.lst ds.dropLast))
      | none => .st)
    | _ => .st)
  | _, _, _ => .st
theorem md_pop : MtD X cA "list.pop" popD := by
  refine ⟨_, mt_pop, fun W M H v x vs ds Q E co rx r hp => ?_⟩
  unfold popD at hp
  split at hp
  · rename_i q n
    cases r
    split at hp
    · rename_i ds e1
      split at hp
      · rename_i d e3
        obtain ⟨a1, rfl, e2⟩ := rx
        obtain ⟨g, vs, hv1, hr⟩ := co.ok q n a1 _ e2 e1 trivial
        obtain ⟨w, e4, rw⟩ := hr.get' e3
        refine ⟨a1, vs, w, rfl, rfl, hv1, by rw [hr.length]; exact e4, ?_⟩
        exact hp W w _ (Le.refl _) (co.set e2 e1 trivial (fun b hb _ => upd_ne hb) (by rw [upd_same]; intro y; cases y) fun _ => ⟨_, upd_same, hr.dropLast⟩) rw
      · exact hp.elim
    · exact hp.elim
  · exact hp.elim
def popAtD : Dt → List Dt → Mem → Rs Dt
  | .cell q n, [i], M => (match M.at_ q n, intOf i with
    | some (.lst ds), some k => if -(2 ^ 63) ≤ k ∧ k < 2 ^ 63 then (match seqIndex? k ds.length with
      | some j => (match ds[j]? with
        | some d => .ok (.p d) (M.set q n (.lst (ds.eraseIdx j)))
        | none => .st)
      | none => .st) else .st
    | _, _ => .st)
  | _, _, _ => .st
theorem md_popAt : MtD X cA "list.pop" popAtD := by
  refine ⟨_, mt_popAt, fun W M H v x vs ds Q E co rx r hp => ?_⟩
  unfold popAtD at hp
  split at hp
  · rename_i q n i
    obtain ⟨w, rfl, ri⟩ := rv1 r
    split at hp
    · rename_i ds k e1 ek
      by_cases z : -(2 ^ 63) ≤ k ∧ k < 2 ^ 63
      · rw [if_pos z] at hp
        split at hp
        · rename_i j ej
          split at hp
          · rename_i d e3
            obtain ⟨a1, rfl, e2⟩ := rx
            obtain ⟨g, vs, hv1, hr⟩ := co.ok q n a1 _ e2 e1 trivial
            obtain ⟨y, e4, ry⟩ := hr.get' e3
            refine ⟨a1, vs, k, j, y, rfl, by rw [intOf_rd ri ek], hv1, z.1, z.2, by rw [hr.length]; exact ej, e4, ?_⟩
            exact hp W y _ (Le.refl _) (co.set e2 e1 trivial (fun b hb _ => upd_ne hb) (by rw [upd_same]; intro y; cases y) fun _ => ⟨_, upd_same, hr.eraseIdx j⟩) ry
          · exact hp.elim
        · exact hp.elim
      · rw [if_neg z] at hp
        exact hp.elim
    · exact hp.elim
  · exact hp.elim
/-- xs.extend(ys), ys any list -/
def rExtR : V → List V → Hp → VK → Prop := fun x vs H Q => ∃ l b xs zs, x = .ref l ∧ vs = [.ref b] ∧ H l = some (.lst xs) ∧ Rd H b (.lst zs) ∧ xs.length + zs.length ≤ sizeLine ∧ Q .non (upd H l (.lst (xs ++ zs)))
theorem mt_extR : MtM X "list.extend" rExtR := by
  intro pins s σ H x vs v us Q I rx rv h
  obtain ⟨l, b, xs, zs, rfl, rfl, hH, hB, hz, q⟩ := h
  cases rx
  obtain ⟨u, rfl, ru⟩ := rv.one
  cases ru
  obtain ⟨z, its, n, r, hl, e⟩ := I.lstM hH
  obtain ⟨z2, its2, n2, r2, e2⟩ := hB.ok I.hok
  have hl2 := r2.length
  have hsz : its.toArray.size + its2.toArray.size ≤ sizeLine := by rw [List.size_toArray, List.size_toArray]; omega
  have hlong : ¬ (!its.toArray.isEmpty && Builtin.List.listTooLong (its.toArray.size + its2.toArray.size)) = true := by
    rw [notLongL hsz, Bool.and_false]
    exact Bool.false_ne_true
  refine call_meets F.slot_list_extend ⟨_, e, rfl⟩ F.entry_list_extend (F.args_list_extend_2 _ _)
    (AutoSeq1.list_extend_list_list_0 l its.toArray n b its2.toArray n2 hlong (by rw [List.size_toArray]; omega) (by omega)) ⟨e, e2, ?_⟩
  refine ⟨.non, _, I.lset (its' := its ++ its2) hH e (by simp) (r.append r2) ?_, rfl, q⟩
  rw [List.length_append]
  omega
def extendD : Dt → List Dt → Mem → Rs Dt
  | .cell q n, [y], M => (match M.at_ q n, lstOf M y with
    | some (.lst ds), some es => if ds.length + es.length ≤ sizeLine then .ok (.p .none) (M.set q n (.lst (ds ++ es))) else .st
    | _, _ => .st)
  | _, _, _ => .st
theorem md_extend : MtD X cA "list.extend" extendD := by
  refine ⟨_, mt_extR, fun W M H v x vs ds Q E co rx r hp => ?_⟩
  unfold extendD at hp
  split at hp
  · rename_i q n y
    obtain ⟨w, rfl, ry⟩ := rv1 r
    split at hp
    · rename_i ds es e1 ey
      by_cases z : ds.length + es.length ≤ sizeLine
      · rw [if_pos z] at hp
        obtain ⟨a1, rfl, e2⟩ := rx
        obtain ⟨g, vs, hv1, hr⟩ := co.ok q n a1 _ e2 e1 trivial
        obtain ⟨a2, ws, rfl, hd, hr2⟩ := lstOf_rd co ry ey
        refine ⟨a1, a2, vs, ws, rfl, rfl, hv1, hd, by rw [hr.length, hr2.length]; exact z, ?_⟩
        exact hp W .non _ (Le.refl _) (co.set e2 e1 trivial (fun b hb _ => upd_ne hb) (by rw [upd_same]; intro y; cases y) fun _ => ⟨_, upd_same, hr.append hr2⟩) Rp.non
      · rw [if_neg z] at hp
        exact hp.elim
    · exact hp.elim
  · exact hp.elim
/-- sep.join(xs) -/
def strsOf : List PyData → Option (List Str)
  | [] => some []
  | .str s :: r => (strsOf r).map (s :: ·)
  | _ :: _ => none
theorem strsOf_rp {K : PySem.W.Frag} {G : Hp} : ∀ {vs : List V} {ds : List PyData} {ss : List Str}, RpAll K G vs ds → strsOf ds = some ss → vs = ss.map V.str
  | _, _, ss, .nil, h => by
    cases h
    rfl
  | _, _, ss, .cons (d := d) (ds := ds) h r, e => by
    cases d with
    | str s =>
      simp only [strsOf] at e
      cases q : strsOf ds with
      | none =>
        rw [q] at e
        cases e
      | some t =>
        rw [q] at e
        cases e
        cases h
        rw [strsOf_rp r q]
        rfl
    | _ => cases e
def aJoin (fo f : SS → Mem → Rs Dt) : SS → Mem → Rs Dt := fun s M => (fo s M).bind fun x M1 => match strOf x with
  | some z => (f s M1).bind fun y M2 => (match seqOf M2 y with
    | some ds => (match strsOf ds with
      | some ss => if (ss.map (·.length)).sum + ss.length * z.length ≤ 16777216 then .ok (.p (.str (Txt.join z ss))) M2 else .st
      | none => .st)
    | none => .st)
  | none => .st
theorem ae_join (ho : AE X cA Wx o fo) (he : AE X cA Wx e f) (hs : starEach [e] X.env = [(false, eval e X.env)] := by rfl) (hbase : attributeBase o "join" X.env (eval o X.env) = eval o X.env := by rfl) (hline : (apos.endLine == pos.line) = true := by rfl) :
    AE X cA Wx (.Call (.Attribute o "join" apos) [e] [] pos) (aJoin fo f) := by
  obtain ⟨to, po, ho⟩ := ho
  obtain ⟨te, pe, he⟩ := he
  refine ⟨_, pe_join po pe hs hbase hline, fun W sv s M H Q so co h => ?_⟩
  refine ho W sv s M H _ so co (PostG.bind h fun x M1 W1 v H1 _ l1 c1 r1 h1 => ?_)
  split at h1
  · rename_i z e1
    have ez := strOf_rd r1 e1
    subst ez
    refine ⟨⟨z, rfl⟩, he W1 sv s M1 H1 _ (so.mono l1) c1 (PostG.bind h1 fun y M2 W2 w H2 _ l2 c2 r2 h2 => ?_)⟩
    split at h2
    · rename_i ds e2
      split at h2
      · rename_i ss e3
        by_cases q : (ss.map (·.length)).sum + ss.length * z.length ≤ 16777216
        · rw [if_pos q] at h2
          obtain ⟨a1, vs, rfl, k1, rr⟩ := seqOf_rd c2 r2 e2
          have ev := strsOf_rp rr e3
          subst ev
          exact ⟨z, a1, ss, rfl, rfl, k1, q, h2 W2 _ H2 (Le.refl _) c2 (Rp.str _)⟩
        · rw [if_neg q] at h2
          exact h2.elim
      · exact h2.elim
    · exact h2.elim
  · exact h1.elim

/-! ### fields -/
def fldD (cs : List Nat) (fd : Str) : Dt → Mem → Rs Dt := fun x M => match x with
  | .cell q n => (match M.at_ q n with
    | some (.obj c fs) => if c ∈ cs then (match fs.lookup fd with
      | some d => .ok d M
      | none => .st) else .st
    | _ => .st)
  | _ => .st
def aFld (cs : List Nat) (fd : Str) (f : SS → Mem → Rs Dt) : SS → Mem → Rs Dt := fun s M => (f s M).bind fun x M1 => fldD cs fd x M1
theorem ae_fld (cs : List Nat) {fd : Str} (he : AE X cA Wx e f) (hc : ∀ c ∈ cs, Cls X.K (cA c) ∧ NoAttr X.K (cA c) fd) (hb : attributeBase e fd X.env (eval e X.env) = eval e X.env := by rfl) : AE X cA Wx (.Attribute e fd pos) (aFld cs fd f) := by
  obtain ⟨te, pe, he⟩ := he
  refine ⟨_, pe_fld pe hb, fun W sv s M H Q so co h => ?_⟩
  refine he W sv s M H _ so co (PostG.bind h fun x M1 W1 v H1 _ l1 c1 r1 h1 => ?_)
  cases x with
  | p x => exact h1.elim
  | cell q n =>
    simp only [fldD] at h1
    split at h1
    · rename_i c fs e1
      by_cases z : c ∈ cs
      · rw [if_pos z] at h1
        split at h1
        · rename_i d e2
          obtain ⟨a1, rfl, ea⟩ := r1
          obtain ⟨g, dx, vs, hv1, hr⟩ := c1.ok q n a1 _ ea e1 trivial
          obtain ⟨v, e3, r3⟩ := hr.lookup e2
          exact ⟨a1, cA c, dx, vs, v, rfl, hv1, (hc c z).1, (hc c z).2, e3, h1 W1 v H1 (Le.refl _) c1 r3⟩
        · exact h1.elim
      · rw [if_neg z] at h1
        exact h1.elim
    · exact h1.elim
instance : ∀ d : Dt, Decidable d.out := fun d => by
  cases d with
  | p d => exact isTrue trivial
  | cell b i =>
    cases b
    · exact isTrue trivial
    · exact isFalse fun h => h
def setF (cs : List Nat) (fd : Str) : Dt → Dt → Mem → Rs Unit := fun x v M => match x with
  | .cell q n => (match M.at_ q n with
    | some (.obj c fs) => if c ∈ cs ∧ fs.length < 1000 ∧ v.out then .ok () (M.set q n (.obj c (putD fd v fs))) else .st
    | _ => .st)
  | _ => .st
def aSetF (cs : List Nat) (fd : Str) (fo f : SS → Mem → Rs Dt) : SS → Mem → Rs Fl := fun s M => (f s M).bind fun v M1 => (fo s M1).bind fun x M2 => (setF cs fd x v M2).bind fun _ M3 => .ok (.nx s) M3
theorem as_fld (cs : List Nat) {fd : Str} (ho : AE X cA Wx o fo) (hv : AE X cA Wx e f) (hc : ∀ c ∈ cs, Cls X.K (cA c) ∧ NoAttr X.K (cA c) fd) (hs : swapsWith e (some (.Attribute o fd pos')) pos.line X.env = pure false := by rfl) : AS X cA Wx (.Assign [.Attribute o fd pos'] e pos) (aSetF cs fd fo f) := by
  obtain ⟨to, po, ho⟩ := ho
  obtain ⟨te, pe, hv⟩ := hv
  refine ⟨_, ps_fld po pe hs, fun W sv s M H D so co h => ?_⟩
  refine hv W sv s M H _ so co (PostS.bind h fun d M1 W1 v H1 _ l1 c1 r1 h1 => ?_)
  refine ho W1 sv s M1 H1 _ (so.mono l1) c1 (PostS.bind h1 fun x M2 W2 w H2 _ l2 c2 r2 h2 => ?_)
  cases x with
  | p x => exact h2.elim
  | cell q n =>
    simp only [setF] at h2
    split at h2
    · rename_i c fs e1
      by_cases z : c ∈ cs ∧ fs.length < 1000 ∧ d.out
      · rw [if_pos z] at h2
        obtain ⟨a1, rfl, ea⟩ := r2
        obtain ⟨g, dx, vs, hv1, hr⟩ := c2.ok q n a1 _ ea e1 trivial
        refine ⟨a1, cA c, dx, vs, rfl, hv1, (hc c z.1).1, (hc c z.1).2, by rw [hr.length]; exact z.2.1, ?_⟩
        exact h2 W2 sv _ (Le.refl _) (c2.set ea e1 trivial (fun b hb _ => upd_ne hb) (by rw [upd_same]; intro y; cases y) fun _ => ⟨dx, _, upd_same, hr.put z.2.2 (r1.mono l2)⟩) (so.mono (l1.trans l2))
      · rw [if_neg z] at h2
        exact h2.elim
    · exact h2.elim
end
end DL

set_option Elab.async false
set_option linter.all false
set_option maxRecDepth 100000
/-! DL5: loops, comprehensions, a def and its calls. -/
namespace DL
open PySem PySem.Spec PyProof.Rows L2

section
variable {X : Cx} {cA : Nat → Addr} {Wx : WX} {e a b c o tg iter : Expr} {f fa fb fc fo : SS → Mem → Rs Dt} {fs : SS → Mem → Rs (List Dt)} {tf : SS → Mem → Rs Bool} {pos p : Pos} {es : List Expr}

/-! ### what is walked -/
abbrev Src := Option (Bool × Nat)
def Intact (src : Src) (M1 M2 : Mem) : Prop := ∀ b i, src = some (b, i) → M2.at_ b i = M1.at_ b i
theorem intact_none {M1 M2 : Mem} : Intact none M1 M2 := fun _ _ h => by cases h
theorem Intact.refl {src : Src} {M1 : Mem} : Intact src M1 M1 := fun _ _ _ => rfl
def PostI (K : PySem.W.Frag) (cA : Nat → Addr) (r : Rs (List PyData × Src)) (W : Wd) (R : It → Hp → Prop) (E : XK) : Prop := match r with
  | .ok x M1 => ∀ (W1 : Wd) (H1 : Hp) (J : It) (G : Hp → Prop) (Y : Nat → Hp → V → Hp → Prop), Le W W1 → Conc K cA W1 M1 H1 → Walk J x.1.length G Y →
      (∀ (W2 : Wd) (M2 : Mem) (H2 : Hp), Same W1.G W2.G → (∀ b i a, W1.at_ b i = some a → W2.at_ b i = some a) → Conc K cA W2 M2 H2 → Intact x.2 M1 M2 → G H2) →
      (∀ (i : Nat) (Hx : Hp) (v : V) (Hx' : Hp) (W2 : Wd) (M2 : Mem), i < x.1.length → Same W1.G W2.G → (∀ b i a, W1.at_ b i = some a → W2.at_ b i = some a) → Conc K cA W2 M2 Hx → Intact x.2 M1 M2 → Y i Hx v Hx' → ∃ (W3 : Wd) (d : PyData), Le W2 W3 ∧ Conc K cA W3 M2 Hx' ∧ x.1[i]? = some d ∧ Rp K W3.G v d) → R J H1
  | .ex c M => ∀ (W' : Wd) (H' : Hp) (cls : Value) (dd : Option Addr), Le W W' → Conc K cA W' M H' → ExOk K cA W' H' c cls dd → E cls dd H'
  | .st => False
theorem PostI.mono {K : PySem.W.Frag} {r : Rs (List PyData × Src)} {W W1 : Wd} {R : It → Hp → Prop} {E : XK} (l : Le W W1) (h : PostI K cA r W R E) : PostI K cA r W1 R E := by
  cases r with
  | ok a M => exact fun W' H' J G Y l' => h W' H' J G Y (l.trans l')
  | ex c M => exact fun W' H' cls dd l' => h W' H' cls dd (l.trans l')
  | st => exact h
theorem PostI.bind {α β : Type} {K : PySem.W.Frag} {R : Wd → β → α → Prop} {r : Rs α} {k : α → Mem → Rs (List PyData × Src)} {W : Wd} {Q : It → Hp → Prop} {Q' : β → Hp → Prop} {E : XK}
    (h : PostI K cA (r.bind k) W Q E) (f : ∀ (a : α) (M : Mem) (W1 : Wd) (b : β) (H1 : Hp), r = .ok a M → Le W W1 → Conc K cA W1 M H1 → R W1 b a → PostI K cA (k a M) W1 Q E → Q' b H1) : PostG K cA R r W Q' E := by
  cases r with
  | ok a M => exact fun W1 b H1 l c q => f a M W1 b H1 rfl l c q (PostI.mono l h)
  | ex c M => exact h
  | st => exact h.elim
structure AI (X : Cx) (cA : Nat → Addr) (Wx : WX) (tg iter : Expr) (f : SS → Mem → Rs (List PyData × Src)) : Prop where
  ex : ∃ wi, PI X tg iter wi ∧ ∀ (W : Wd) (sv : L2.St) (s : SS) (M : Mem) (H : Hp) (R : It → Hp → Prop), SlOk X.K W sv s → Conc X.K cA W M H → PostI X.K cA (f s M) W R (fun c d H' => Wx c d sv H') → wi sv H R

/-! for over it -/
open Classical in
noncomputable def forL (src : Src) (M1 : Mem) (g : Dt → SS → Option SS) (fb : SS → Mem → Rs Fl) : List PyData → SS → Mem → Rs Fl
  | [], s, M => .ok (.nx s) M
  | d :: ds, s, M => match g (.p d) s with
    | none => .st
    | some s1 => match fb s1 M with
      | .ok (.nx s2) M2 => if Intact src M1 M2 then forL src M1 g fb ds s2 M2 else .st
      | .ok (.ct s2) M2 => if Intact src M1 M2 then forL src M1 g fb ds s2 M2 else .st
      | .ok (.bk s2) M2 => .ok (.nx s2) M2
      | .ok (.rt d) M2 => .ok (.rt d) M2
      | .ex c M2 => .ex c M2
      | .st => .st
noncomputable def aFor (fi : SS → Mem → Rs (List PyData × Src)) (g : Dt → SS → Option SS) (fb : SS → Mem → Rs Fl) : SS → Mem → Rs Fl := fun s M => (fi s M).bind fun x M1 => forL x.2 M1 g fb x.1 s M1
theorem drop_cons {α : Type} {l : List α} {i : Nat} {d : α} (h : l[i]? = some d) : l.drop i = d :: l.drop (i + 1) := by
  obtain ⟨hi, e⟩ := List.getElem?_eq_some_iff.mp h
  rw [List.drop_eq_getElem_cons hi, e]
variable {fi : SS → Mem → Rs (List PyData × Src)} {g : Dt → SS → Option SS} {fbd : SS → Mem → Rs Fl} {ix : List Nat} {body : List Stmt}
theorem as_for (hp : PassesOwn (model X.prog X.w) X.A X.env X.xe) (hc : X.calm = true) (hi : AI X cA Wx tg iter fi) (hg : AG X cA tg ix g) (hb : ASs X cA Wx body fbd)
    (hs : ∀ x, foldedSetIterable iter X.env x = pure x := by intro _; rfl) : AS X cA Wx (.For tg iter body [] pos) (aFor fi g fbd) := by
  obtain ⟨wi, pi, hi⟩ := hi
  obtain ⟨tgt, pg, hg⟩ := hg
  obtain ⟨tb, pb, hb⟩ := hb
  refine ⟨_, ps_for hp hc pi pg pb hs, fun W sv s M H D so co h => ?_⟩
  refine hi W sv s M H _ so co ?_
  unfold aFor at h
  cases hr : fi s M with
  | ex c M1 =>
    rw [hr] at h
    exact fun W' H' cls dd l c' e => h W' sv H' cls dd l c' e
  | st =>
    rw [hr] at h
    exact h
  | ok x M1 =>
    rw [hr] at h
    obtain ⟨ds, src⟩ := x
    have h : PostS X.K cA (forL src M1 g fbd ds s M1) W D Wx := h
    intro W1 H1 J G Y l1 c1 wk hG hY
    refine for_it wk (fun i sv' H' => ∃ (W2 : Wd) (M2 : Mem) (s2 : SS), Le W1 W2 ∧ Conc X.K cA W2 M2 H' ∧ SlOk X.K W2 sv' s2 ∧ Intact src M1 M2 ∧ PostS X.K cA (forL src M1 g fbd (ds.drop i) s2 M2) W2 D Wx)
      ⟨W1, M1, s, Le.refl _, c1, so.mono l1, Intact.refl, PostS.mono l1 h⟩ (fun i sv' H' _ ⟨W2, M2, s2, l2, c2, _, it, _⟩ => hG W2 M2 H' l2.G l2.at_ c2 it) ?_ ?_
    · rintro i v sv' Hx Hx' hlt ⟨W2, M2, s2, l2, c2, so2, it, h2⟩ y
      obtain ⟨W3, d, l3, c3, e3, r3⟩ := hY i Hx v Hx' W2 M2 hlt l2.G l2.at_ c2 it y
      rw [drop_cons e3] at h2
      unfold forL at h2
      split at h2
      · exact h2.elim
      · rename_i s3 e4
        refine hg W3 sv' s2 s3 M2 Hx' v (.p d) _ (so2.mono l3) c3 r3 e4 fun sv3 so3 _ => ?_
        refine hb W3 sv3 s3 M2 Hx' _ so3 c3 ?_
        have h3 := PostS.mono l3 h2
        cases hf : fbd s3 M2 with
        | ok x M4 =>
          rw [hf] at h3
          cases x with
          | nx s4 =>
            intro W4 sv4 H4 l4 c4 so4
            by_cases z : Intact src M1 M4
            · simp only [if_pos z] at h3
              exact ⟨W4, M4, s4, (l2.trans l3).trans l4, c4, so4, z, PostS.mono l4 h3⟩
            · simp only [if_neg z] at h3
              exact h3.elim
          | ct s4 =>
            intro W4 sv4 H4 l4 c4 so4
            by_cases z : Intact src M1 M4
            · simp only [if_pos z] at h3
              exact ⟨W4, M4, s4, (l2.trans l3).trans l4, c4, so4, z, PostS.mono l4 h3⟩
            · simp only [if_neg z] at h3
              exact h3.elim
          | bk s4 => exact h3
          | rt d4 => exact h3
        | ex c M4 =>
          rw [hf] at h3
          exact h3
        | st =>
          rw [hf] at h3
          exact h3
    · rintro sv' H' ⟨W2, M2, s2, l2, c2, so2, it, h2⟩
      rw [List.drop_eq_nil_of_le (Nat.le_refl _)] at h2
      exact h2 W2 sv' H' (Le.refl _) c2 so2

/-! while -/
def whileL (t : SS → Mem → Rs Bool) (fb : SS → Mem → Rs Fl) : Nat → SS → Mem → Rs Fl
  | 0, _, _ => .st
  | n + 1, s, M => match t s M with
    | .ok true M1 => (match fb s M1 with
      | .ok (.nx s2) M2 => whileL t fb n s2 M2
      | .ok (.ct s2) M2 => whileL t fb n s2 M2
      | .ok (.bk s2) M2 => .ok (.nx s2) M2
      | .ok (.rt d) M2 => .ok (.rt d) M2
      | .ex c M2 => .ex c M2
      | .st => .st)
    | .ok false M1 => .ok (.nx s) M1
    | .ex c M1 => .ex c M1
    | .st => .st
theorem whileL_le {t : SS → Mem → Rs Bool} {fb : SS → Mem → Rs Fl} : ∀ {n m : Nat} {s : SS} {M : Mem}, n ≤ m → whileL t fb n s M ≠ .st → whileL t fb m s M = whileL t fb n s M
  | 0, _, _, _, _, h => (h rfl).elim
  | n + 1, 0, _, _, l, _ => by omega
  | n + 1, m + 1, s, M, l, h => by
    simp only [whileL] at h ⊢
    cases e : t s M with
    | ex c M1 => rfl
    | st => rfl
    | ok b M1 =>
      rw [e] at h
      cases b with
      | false => rfl
      | true =>
        simp only at h ⊢
        cases e2 : fb s M1 with
        | ex c M2 => rfl
        | st => rfl
        | ok x M2 =>
          rw [e2] at h
          cases x with
          | nx s2 => exact whileL_le (by omega) h
          | ct s2 => exact whileL_le (by omega) h
          | bk s2 => rfl
          | rt d => rfl
/-- turns enough for every loop here -/
def fuel : Nat := 100000000
def aWhile (t : SS → Mem → Rs Bool) (fb : SS → Mem → Rs Fl) : SS → Mem → Rs Fl := fun s M => whileL t fb fuel s M
theorem aWhile_eq {t : SS → Mem → Rs Bool} {fb : SS → Mem → Rs Fl} {s : SS} {M : Mem} (n : Nat) {r : Rs Fl} (h : whileL t fb n s M = r) (hr : r ≠ .st) (hn : n ≤ fuel) : aWhile t fb s M = r := by
  unfold aWhile
  rw [whileL_le hn (by rw [h]; exact hr), h]
theorem as_while (hp : PassesOwn (model X.prog X.w) X.A X.env X.xe) (hc : AT X cA Wx c tf) (hb : ASs X cA Wx body fbd) : AS X cA Wx (.While c body [] pos) (aWhile tf fbd) := by
  obtain ⟨tc, pc, hc⟩ := hc
  obtain ⟨tb, pb, hb⟩ := hb
  refine ⟨_, ps_while hp pc pb, fun W sv s M H D so co h => ?_⟩
  refine ⟨fun m sv' H' => ∃ (W2 : Wd) (M2 : Mem) (s2 : SS), Conc X.K cA W2 M2 H' ∧ SlOk X.K W2 sv' s2 ∧ PostS X.K cA (whileL tf fbd m s2 M2) W2 D Wx, ⟨fuel, W, M, s, co, so, h⟩, ?_⟩
  rintro m sv' H' ⟨W2, M2, s2, c2, so2, h2⟩
  cases m with
  | zero => exact h2.elim
  | succ n =>
    unfold whileL at h2
    refine hc W2 sv' s2 M2 H' _ so2 c2 ?_
    cases e : tf s2 M2 with
    | ex c M3 =>
      rw [e] at h2
      exact fun W' H' cls dd l c' e => h2 W' sv' H' cls dd l c' e
    | st =>
      rw [e] at h2
      exact h2
    | ok b M3 =>
      rw [e] at h2
      intro W3 b' H3 l3 c3 eb
      cases eb
      cases b with
      | false => exact h2 W3 sv' H3 l3 c3 (so2.mono l3)
      | true =>
        show ∃ N : L2.St → Hp → Prop, _
        refine ⟨fun sv4 H4 => ∃ m', m' < n + 1 ∧ ∃ (W2 : Wd) (M2 : Mem) (s2 : SS), Conc X.K cA W2 M2 H4 ∧ SlOk X.K W2 sv4 s2 ∧ PostS X.K cA (whileL tf fbd m' s2 M2) W2 D Wx, fun _ _ z => z, ?_⟩
        refine hb W3 sv' s2 M3 H3 _ (so2.mono l3) c3 ?_
        have h3 := PostS.mono l3 h2
        simp only at h3
        cases hf : fbd s2 M3 with
        | ok x M4 =>
          rw [hf] at h3
          cases x with
          | nx s4 => exact fun W4 sv4 H4 l4 c4 so4 => ⟨n, Nat.lt_succ_self n, W4, M4, s4, c4, so4, PostS.mono l4 h3⟩
          | ct s4 => exact fun W4 sv4 H4 l4 c4 so4 => ⟨n, Nat.lt_succ_self n, W4, M4, s4, c4, so4, PostS.mono l4 h3⟩
          | bk s4 => exact h3
          | rt d4 => exact h3
        | ex c M4 =>
          rw [hf] at h3
          exact h3
        | st =>
          rw [hf] at h3
          exact h3

/-! ### a comprehension -/
abbrev W0 : WX := fun _ _ _ _ => False
def TEa (K : PySem.W.Frag) (cA : Nat → Addr) (f : SS → Mem → Rs Dt) : TE := fun sv H Q => ∃ (W : Wd) (s : SS) (M : Mem), SlOk K W sv s ∧ Conc K cA W M H ∧ PostG K cA (Rv K) (f s M) W Q (fun _ _ _ => False)
theorem AE.pe {e : Expr} (h : AE X cA W0 e f) : PE X e (TEa X.K cA f) := by
  obtain ⟨te, pe, h⟩ := h
  exact ⟨fun pins s σ H Q I ⟨W, s', M, so, co, hp⟩ => pe.run pins s σ H Q I (h W σ s' M H Q so co hp)⟩
def TTa (K : PySem.W.Frag) (cA : Nat → Addr) (f : SS → Mem → Rs Bool) : TT := fun sv H Q => ∃ (W : Wd) (s : SS) (M : Mem), SlOk K W sv s ∧ Conc K cA W M H ∧ PostG K cA RB (f s M) W Q (fun _ _ _ => False)
theorem AT.pt {e : Expr} (h : AT X cA W0 e tf) : PT X e (TTa X.K cA tf) := by
  obtain ⟨te, pe, h⟩ := h
  exact ⟨fun pins s σ H Q I ⟨W, s', M, so, co, hp⟩ => pe.run pins s σ H Q I (h W σ s' M H Q so co hp)⟩
def TGa (K : PySem.W.Frag) (cA : Nat → Addr) (ix : List Nat) (g : Dt → SS → Option SS) : TG := fun v sv H Q => ∃ (W : Wd) (s s' : SS) (M : Mem) (d : Dt), SlOk K W sv s ∧ Conc K cA W M H ∧ Rv K W v d ∧ g d s = some s' ∧ (∀ sv', SlOk K W sv' s' → SlSame ix sv sv' → Q sv' H)
theorem AG.pg {e : Expr} (h : AG X cA e ix g) : PG X e (TGa X.K cA ix g) := by
  obtain ⟨te, pe, h⟩ := h
  exact ⟨fun pins s σ H v u Q I r ⟨W, s1, s', M, d, so, co, rv, e, q⟩ => pe.run pins s σ H v u Q I r (h W σ s1 s' M H v d Q so co rv e q)⟩
/-- the tests of a comprehension -/
structure ATs (X : Cx) (cA : Nat → Addr) (es : List Expr) (f : SS → Mem → Rs Bool) : Prop where
  ex : PTs X es (TTa X.K cA f)
def aYes : SS → Mem → Rs Bool := fun _ M => .ok true M
theorem ats_nil : ATs X cA [] aYes := ⟨⟨fun pins s σ H Q I ⟨W, s', M, so, co, hp⟩ => pts_nil.run pins s σ H Q I (hp W true H (Le.refl W) co rfl)⟩⟩
theorem ats_one (h : AT X cA W0 c tf) : ATs X cA [c] tf := ⟨pts_one h.pt⟩
def wipeS (s : SS) : List Nat → SS
  | [] => s
  | v :: vs => (wipeS s vs).set v none
theorem wipeS_get {s : SS} {i : Nat} {d : Dt} : ∀ {vs : List Nat}, (wipeS s vs)[i]? = some (some d) → s[i]? = some (some d) ∧ i ∉ vs
  | [], h => ⟨h, by simp⟩
  | v :: vs, h => by
    unfold wipeS at h
    by_cases hi : v = i
    · subst hi
      rw [List.getElem?_set] at h
      simp at h
    · rw [List.getElem?_set_ne hi] at h
      obtain ⟨h1, h2⟩ := wipeS_get h
      exact ⟨h1, by simp [h2, Ne.symm hi]⟩
theorem wipeS_length {s : SS} : ∀ {vs : List Nat}, (wipeS s vs).length = s.length
  | [] => rfl
  | v :: vs => by
    unfold wipeS
    rw [List.length_set, wipeS_length]
theorem wipe_get {sv : L2.St} : ∀ {vs : List Nat} {i : Nat}, i ∉ vs → (wipe sv vs)[i]? = sv[i]?
  | [], _, _ => rfl
  | v :: vs, i, h => by
    unfold wipe
    rw [List.getElem?_set_ne (fun z => h (by simp [z])), wipe_get fun z => h (List.mem_cons_of_mem _ z)]
theorem wipe_in {sv : L2.St} : ∀ {vs : List Nat} {i : Nat}, i ∈ vs → (wipe sv vs)[i]? = if i < sv.length then some none else none
  | [], _, h => by cases h
  | v :: vs, i, h => by
    unfold wipe
    by_cases z : v = i
    · subst z
      rw [List.getElem?_set]
      simp [wipe_length]
    · rw [List.getElem?_set_ne z]
      exact wipe_in (by simpa [Ne.symm z] using h)
theorem wipe_same {sv sv' : L2.St} {vs ix : List Nat} (h : SlSame ix (wipe sv vs) sv') (hx : ∀ i ∈ ix, i ∈ vs) : wipe sv' vs = wipe sv vs := by
  have hl : sv'.length = sv.length := by rw [h.1, wipe_length]
  apply List.ext_getElem?
  intro i
  by_cases hi : i ∈ vs
  · rw [wipe_in hi, wipe_in hi, hl]
  · rw [wipe_get hi, h.2 i fun z => hi (hx i z)]
theorem SlOk.wipe {K : PySem.W.Frag} {W : Wd} {sv : L2.St} {s : SS} {vs : List Nat} (h : SlOk K W sv s) : SlOk K W (L2.wipe sv vs) (wipeS s vs) := by
  refine ⟨by rw [wipe_length, wipeS_length, h.1], fun i d e => ?_⟩
  obtain ⟨e1, hi⟩ := wipeS_get e
  obtain ⟨v, e2, r⟩ := h.2 i d e1
  exact ⟨v, by rw [wipe_get hi]; exact e2, r⟩
/-- as bind, an exception has no way -/
@[reducible] def Rs.bindN {α β : Type} (r : Rs α) (k : α → Mem → Rs β) : Rs β := match r with
  | .ok a M => k a M
  | _ => .st
open Classical in
noncomputable def lcL (src : Src) (M1 : Mem) (sw : SS) (g : Dt → SS → Option SS) (t : SS → Mem → Rs Bool) (fe : SS → Mem → Rs Dt) : List PyData → List PyData → Mem → Rs (List PyData)
  | [], acc, M => .ok acc M
  | d :: ds, acc, M => match g (.p d) sw with
    | none => .st
    | some s2 => (t s2 M).bindN fun b M2 => if b = true then (fe s2 M2).bindN fun y M3 => (toP y M3).bindN fun q M4 => if acc.length < sizeLine ∧ Intact src M1 M4 then lcL src M1 sw g t fe ds (acc ++ [q]) M4 else .st
        else if Intact src M1 M2 then lcL src M1 sw g t fe ds acc M2 else .st
noncomputable def aLc (own : List Nat) (fi : SS → Mem → Rs (List PyData × Src)) (g : Dt → SS → Option SS) (t : SS → Mem → Rs Bool) (fe : SS → Mem → Rs Dt) : SS → Mem → Rs (List PyData) := fun s M => (fi s M).bind fun x M1 => lcL x.2 M1 (wipeS s own) g t fe x.1 [] M1
def Hp.erase (H : Hp) (p : Addr) : Hp := fun b => if b = p then none else H b
theorem erase_ne {H : Hp} {p b : Addr} (h : b ≠ p) : Hp.erase H p b = H b := by unfold Hp.erase; rw [if_neg h]
theorem erase_self {H : Hp} {p : Addr} : Hp.erase H p p = none := by unfold Hp.erase; rw [if_pos rfl]
theorem erase_upd {H : Hp} {p : Addr} {o : HO} (h : H p = some o) : upd (Hp.erase H p) p o = H := by
  funext b
  by_cases z : b = p
  · subst z
    rw [upd_same, h]
  · rw [upd_ne z, erase_ne z]
theorem Conc.unhold {K : PySem.W.Frag} {W : Wd} {M : Mem} {H : Hp} {p : Addr} {o : HO} {fr : List (Addr × HO)} (c : Conc K cA W M H) (e : W.fr = (p, o) :: fr) (np : ∀ q ∈ fr, q.1 ≠ p) : Conc K cA ⟨W.m, W.o, W.G, fr⟩ M (Hp.erase H p) := by
  obtain ⟨g1, g2, g3⟩ := c.fr (p, o) (by rw [e]; exact List.mem_cons_self ..)
  have at_ : ∀ b i, Wd.at_ ⟨W.m, W.o, W.G, fr⟩ b i = W.at_ b i := fun b i => by cases b <;> rfl
  refine ⟨c.lm, c.lo, fun b i b' j a e e' => c.inj b i b' j a (by rw [at_] at e; exact e) (by rw [at_] at e'; exact e'), fun b u z => ?_, fun b i a z => ?_, fun b i a d z m l => ?_, fun y hy => ?_⟩
  · have q : b ≠ p := by
      rintro rfl
      have z : W.G b = some u := z
      rw [g2] at z
      cases z
    rw [erase_ne q]
    exact c.sub b u z
  · rw [at_] at z
    rw [erase_ne (by rintro rfl; exact g3 b i z)]
    exact c.ex b i a z
  · rw [at_] at z
    obtain ⟨g, k⟩ := c.ok b i a d z m l
    have q : a ≠ p := by
      rintro rfl
      exact g3 b i z
    exact ⟨g, CellOk.like (W := W) at_ rfl (CellOk.mono (W := W) (W' := W) (Le.refl W) (erase_ne q) k)⟩
  · obtain ⟨f1, f2, f3⟩ := c.fr y (by rw [e]; exact List.mem_cons_of_mem _ hy)
    exact ⟨by rw [erase_ne (np y hy)]; exact f1, f2, fun b i => by rw [at_]; exact f3 b i⟩
theorem lc_core2 {own : List Nat} {src : Src} {M1 : Mem} {fe : SS → Mem → Rs Dt} {sv : L2.St} {s : SS} {W1 : Wd} {H1 : Hp} {J : It} {G : Hp → Prop} {Y : Nat → Hp → V → Hp → Prop} {ds : List PyData} {Q : VK} {E : XK} {W : Wd}
    (hix : ∀ i ∈ ix, i ∈ own) (so : SlOk X.K W1 sv s) (l1 : Le W W1) (c1 : Conc X.K cA W1 M1 H1) (wk : Walk J ds.length G Y)
    (hG : ∀ (W2 : Wd) (M2 : Mem) (H2 : Hp), Same W1.G W2.G → (∀ b i a, W1.at_ b i = some a → W2.at_ b i = some a) → Conc X.K cA W2 M2 H2 → Intact src M1 M2 → G H2)
    (hY : ∀ (i : Nat) (Hx : Hp) (v : V) (Hx' : Hp) (W2 : Wd) (M2 : Mem), i < ds.length → Same W1.G W2.G → (∀ b i a, W1.at_ b i = some a → W2.at_ b i = some a) → Conc X.K cA W2 M2 Hx → Intact src M1 M2 → Y i Hx v Hx' → ∃ (W3 : Wd) (d : PyData), Le W2 W3 ∧ Conc X.K cA W3 M2 Hx' ∧ ds[i]? = some d ∧ Rp X.K W3.G v d)
    {r0 : Rs (List PyData)} (hr0 : lcL src M1 (wipeS s own) g tf fe ds [] M1 = r0)
    (h : PostL X cA r0 W Q E) :
    ∀ D, H1 D = none → ∃ Wv : Nat → Nat → Hp → Prop, (∃ m, Wv 0 m (upd H1 D (.lst []))) ∧ ∀ i m H, Wv i m H →
      (J.stop i H ∧ Q (.ref D) H) ∨ (J.go i H ∧ ∃ Nx : Hp → Prop, (∀ H', Nx H' → ∃ m', m' < m ∧ Wv (i + 1) m' H') ∧ ∀ x H', J.yld i H x H' → TGa X.K cA ix g x (wipe sv own) H' fun σ2 H2 => wipe σ2 own = wipe sv own ∧ TTa X.K cA tf σ2 H2 fun b H3 =>
        if b = true then TEa X.K cA fe σ2 H3 fun y H4 => ∃ acc, H4 D = some (.lst acc) ∧ acc.length < sizeLine ∧ Nx (upd H4 D (.lst (acc ++ [y]))) else Nx H3) := by
  intro D hD
  have hDf : ∀ q ∈ W1.fr, q.1 ≠ D := fun q hq z => by
    have := (c1.fr q hq).1
    rw [z, hD] at this
    cases this
  let Pv : Nat → Hp → Prop := fun i H' => ∃ (W2 : Wd) (M2 : Mem) (vs : List V) (acc : List PyData), (∀ b i a, W1.at_ b i = some a → W2.at_ b i = some a) ∧ Same W1.G W2.G ∧ W2.fr = (D, .lst vs) :: W1.fr ∧ Conc X.K cA W2 M2 H' ∧ RpAll X.K W2.G vs acc ∧ Intact src M1 M2 ∧
    lcL src M1 (wipeS s own) g tf fe (ds.drop i) acc M2 = r0
  have nst : r0 ≠ .st := fun z => by
    rw [z] at h
    exact h
  refine lc_it wk (σ := sv) (vs := own) Pv ?_ ?_ ?_ ?_
  · exact ⟨W1.hold D (.lst []), M1, [], [], fun b i a e => by rw [Wd.hold_at]; exact e, fun _ _ e => e, rfl, c1.hold hD upd_same fun b hb => upd_ne hb, .nil, Intact.refl, by rw [List.drop_zero]; exact hr0⟩
  · rintro i H' _ ⟨W2, M2, vs, acc, la, lg, _, c2, _, it, _⟩
    exact hG W2 M2 H' lg la c2 it
  · rintro i v Hx Hx' hlt ⟨W2, M2, vs, acc, la, lg, ef, c2, ra, it, eq⟩ y
    obtain ⟨W3, d, l3, c3, e3, r3⟩ := hY i Hx v Hx' W2 M2 hlt lg la c2 it y
    rw [drop_cons e3] at eq
    unfold lcL at eq
    have so3 : SlOk X.K W3 sv s := ⟨so.1, fun i d e => by
      obtain ⟨v, q, r⟩ := so.2 i d e
      exact ⟨v, q, Rv.mono l3 (by
        cases d with
        | p d => exact Rp.mono lg r
        | cell b j =>
          obtain ⟨a, e1, e2⟩ := r
          exact ⟨a, e1, la _ _ _ e2⟩)⟩⟩
    split at eq
    · exact (nst eq.symm).elim
    · rename_i s3 e4
      refine ⟨W3, wipeS s own, s3, M2, .p d, so3.wipe, c3, r3, e4, fun sv3 sok3 sm3 => ⟨wipe_same sm3 hix, W3, s3, M2, sok3, c3, ?_⟩⟩
      cases ht : tf s3 M2 with
      | ex c M5 =>
        rw [ht] at eq
        exact (nst eq.symm).elim
      | st =>
        rw [ht] at eq
        exact (nst eq.symm).elim
      | ok b M5 =>
        rw [ht] at eq
        intro W5 b' H5 l5 c5 eb
        cases eb
        simp only [Rs.bindN] at eq
        cases b with
        | false =>
          simp only [Bool.false_eq_true, if_false] at eq ⊢
          by_cases z : Intact src M1 M5
          · rw [if_pos z] at eq
            exact ⟨W5, M5, vs, acc, fun b i a e => l5.at_ _ _ _ (l3.at_ _ _ _ (la b i a e)), (lg.trans l3.G).trans l5.G, by rw [l5.fr, l3.fr, ef], c5, (ra.mono l3.G).mono l5.G, z, eq⟩
          · rw [if_neg z] at eq
            exact (nst eq.symm).elim
        | true =>
          simp only [if_true] at eq ⊢
          refine ⟨W5, s3, M5, sok3.mono l5, c5, ?_⟩
          cases hf : fe s3 M5 with
          | ex c M6 =>
            rw [hf] at eq
            exact (nst eq.symm).elim
          | st =>
            rw [hf] at eq
            exact (nst eq.symm).elim
          | ok y6 M6 =>
            rw [hf] at eq
            intro W6 v6 H6 l6 c6 r6
            simp only [Rs.bindN] at eq
            cases hq : toP y6 M6 with
            | ex c M7 =>
              rw [hq] at eq
              exact (nst eq.symm).elim
            | st =>
              rw [hq] at eq
              exact (nst eq.symm).elim
            | ok q7 M7 =>
              rw [hq] at eq
              obtain ⟨W7, l7, c7, r7⟩ := toP_ok c6 r6 hq
              simp only at eq
              by_cases z : acc.length < sizeLine ∧ Intact src M1 M7
              · rw [if_pos z] at eq
                have ef7 : W7.fr = (D, .lst vs) :: W1.fr := by rw [l7.fr, l6.fr, l5.fr, l3.fr, ef]
                have hd7 : H6 D = some (.lst vs) := (c7.fr (D, .lst vs) (by rw [ef7]; exact List.mem_cons_self ..)).1
                have ra7 : RpAll X.K W7.G vs acc := (((ra.mono l3.G).mono l5.G).mono l6.G).mono l7.G
                refine ⟨vs, hd7, by rw [ra7.length]; exact z.1, ?_⟩
                have lg7 : Same W1.G W7.G := (((lg.trans l3.G).trans l5.G).trans l6.G).trans l7.G
                refine ⟨⟨W7.m, W7.o, W7.G, (D, .lst (vs ++ [v6])) :: W1.fr⟩, M7, vs ++ [v6], acc ++ [q7], fun b i a e => ?_, lg7, rfl, ?_, ra7.snoc r7, z.2, eq⟩
                · have := l7.at_ _ _ _ (l6.at_ _ _ _ (l5.at_ _ _ _ (l3.at_ _ _ _ (la b i a e))))
                  cases b <;> exact this
                · have c8 : Conc X.K cA (Wd.hold ⟨W7.m, W7.o, W7.G, W1.fr⟩ D (.lst vs)) M7 H6 := by
                    have e8 : Wd.hold ⟨W7.m, W7.o, W7.G, W1.fr⟩ D (.lst vs) = W7 := by
                      unfold Wd.hold
                      rw [← ef7]
                    rw [e8]
                    exact c7
                  exact c8.rehold (o' := .lst (vs ++ [v6])) hDf upd_same fun b hb => upd_ne hb
              · rw [if_neg z] at eq
                exact (nst eq.symm).elim
  · rintro H' ⟨W2, M2, vs, acc, la, lg, ef, c2, ra, it, eq⟩
    rw [List.drop_eq_nil_of_le (Nat.le_refl _)] at eq
    unfold lcL at eq
    rw [← eq] at h
    have hD2 : H' D = some (.lst vs) := (c2.fr (D, .lst vs) (by rw [ef]; exact List.mem_cons_self ..)).1
    have c3 := c2.unhold ef hDf
    have := h ⟨W2.m, W2.o, W2.G, W1.fr⟩ vs D (Hp.erase H' D) ⟨fun b i a e => by have := la b i a (l1.at_ b i a e); cases b <;> exact this, l1.G.trans lg, l1.fr⟩ c3 ra erase_self
    rw [erase_upd hD2] at this
    exact this
end
end DL

set_option Elab.async false
set_option linter.all false
set_option maxRecDepth 100000
/-! DL6: comprehensions as rules, what is walked, defs. -/
namespace DL
open PySem PySem.Spec PyProof.Rows L2

section
variable {X : Cx} {cA : Nat → Addr} {Wx : WX} {e a b c o tg iter elt : Expr} {f fa fb fc fo fe : SS → Mem → Rs Dt} {fs : SS → Mem → Rs (List Dt)} {tf : SS → Mem → Rs Bool} {pos p : Pos} {es ifs : List Expr}
variable {fi : SS → Mem → Rs (List PyData × Src)} {g : Dt → SS → Option SS} {ix : List Nat} {scope : Scope} {own : List (Str × Nat)}

theorem lc_read (hix : ∀ i ∈ ix, i ∈ own.map (·.2)) {wi : TI}
    (hi : ∀ (W : Wd) (sv : L2.St) (s : SS) (M : Mem) (H : Hp) (R : It → Hp → Prop), SlOk X.K W sv s → Conc X.K cA W M H → PostI X.K cA (fi s M) W R (fun c d H' => Wx c d sv H') → wi sv H R)
    (W : Wd) (sv : L2.St) (s : SS) (M : Mem) (H : Hp) (Q : VK) (so : SlOk X.K W sv s) (co : Conc X.K cA W M H) (h : PostL X cA (aLc (own.map (·.2)) fi g tf fe s M) W Q (fun c d H' => Wx c d sv H')) :
    tLc wi (TGa X.K cA ix g) (TTa X.K cA tf) (TEa X.K cA fe) (own.map (·.2)) sv H Q := by
  refine hi W sv s M H _ so co ?_
  unfold aLc at h
  cases hr : fi s M with
  | ex c M1 =>
    rw [hr] at h
    exact h
  | st =>
    rw [hr] at h
    exact h
  | ok x M1 =>
    rw [hr] at h
    obtain ⟨ds, src⟩ := x
    intro W1 H1 J G Y l1 c1 wk hG hY
    exact lc_core2 hix (so.mono l1) l1 c1 wk hG hY rfl h
theorem al_lc (hc : X.calm = true) (hN : X.N.Nodup) (hi : AI X cA Wx tg iter fi) (ok : BlkOk X.N X.env.scope scope own)
    (hg : ∀ (s : Shared) (H : Hp) (C : Addr) (cl : List (Str × Addr)) (fp : List Addr), AG (X.blk s H scope (compEnvC scope cl C X.env) fp) cA tg ix g)
    (ht : ∀ (s : Shared) (H : Hp) (C : Addr) (cl : List (Str × Addr)) (fp : List Addr), ATs (X.blk s H scope (compEnvC scope cl C X.env) fp) cA ifs tf)
    (he : ∀ (s : Shared) (H : Hp) (C : Addr) (cl : List (Str × Addr)) (fp : List Addr), AE (X.blk s H scope (compEnvC scope cl C X.env) fp) cA W0 elt fe)
    (hix : ∀ i ∈ ix, i ∈ own.map (·.2) := by decide) (hs : ∀ x, foldedSetIterable iter X.env x = pure x := by intro _; rfl) : AL X cA Wx (.ListComp elt [⟨tg, iter, ifs, 0⟩] scope pos) (aLc (own.map (·.2)) fi g tf fe) := by
  obtain ⟨wi, pi, hi⟩ := hi
  exact al_mk (pe_lc hc hN pi ok (fun s H C cl fp => (hg s H C cl fp).pg) (fun s H C cl fp => (ht s H C cl fp).ex) (fun s H C cl fp => (he s H C cl fp).pe) hs) (lc_read hix hi)
/-- y = [..], y a plain local: as data, as a cell -/
theorem setLc_core {q : Option Bool} {i : Nat} {W : Wd} {sv : L2.St} {s : SS} {D : Ends} {r : Rs (List PyData)} (so : SlOk X.K W sv s)
    (h : PostS X.K cA (r.bind fun ds M1 => match q with
      | none => .ok (.nx (s.set i (some (.p (.list ds))))) M1
      | some q => .ok (.nx (s.set i (some (.cell q (M1.size q))))) (M1.add q (.lst ds))) W D Wx) :
    PostL X cA r W (fun x H1 => gName i x sv H1 D.nx) (fun c d H' => Wx c d sv H') := by
  cases r with
  | ex c M1 => exact fun W' H' cls dd l c' e => h W' sv H' cls dd l c' e
  | st => exact h
  | ok ds M1 =>
    intro W' vs p H' l c r hn
    cases q with
    | none => exact h (W'.put p (.lst vs)) _ _ (l.trans (c.lePut hn)) (c.put hn) ((so.mono (l.trans (c.lePut hn))).set i (Rp.lst (.inl upd_same) (r.mono (c.lePut hn).G)))
    | some q =>
      refine h (W'.add q p) _ _ (l.trans Wd.leAdd) (c.add hn (fun b hb _ => upd_ne hb) (by rw [upd_same]; intro y; cases y) fun _ => ⟨vs, upd_same, ?_⟩) ((so.mono (l.trans Wd.leAdd)).set i ⟨p, rfl, c.add_at⟩)
      rw [Wd.add_G]
      exact r
def aSetL (q : Option Bool) (i : Nat) (fl : SS → Mem → Rs (List PyData)) : SS → Mem → Rs Fl := fun s M => (fl s M).bind fun ds M1 => match q with
  | none => .ok (.nx (s.set i (some (.p (.list ds))))) M1
  | some q => .ok (.nx (s.set i (some (.cell q (M1.size q))))) (M1.add q (.lst ds))
theorem as_setLc (q : Option Bool) {i : Nat} {y : Str} {py spos : Pos} (hc : X.calm = true) (hN : X.N.Nodup) (hy : X.N[i]? = some y) (hyl : X.env.scope.names.lookup y = some .local)
    (hsw : swapsWith (.ListComp elt [⟨tg, iter, ifs, 0⟩] scope pos) (some (.Name y py)) spos.line X.env = pure true) (hi : AI X cA Wx tg iter fi) (ok : BlkOk X.N X.env.scope scope own)
    (hg : ∀ (s : Shared) (H : Hp) (C : Addr) (cl : List (Str × Addr)) (fp : List Addr), AG (X.blk s H scope (compEnvC scope cl C X.env) fp) cA tg ix g)
    (ht : ∀ (s : Shared) (H : Hp) (C : Addr) (cl : List (Str × Addr)) (fp : List Addr), ATs (X.blk s H scope (compEnvC scope cl C X.env) fp) cA ifs tf)
    (he : ∀ (s : Shared) (H : Hp) (C : Addr) (cl : List (Str × Addr)) (fp : List Addr), AE (X.blk s H scope (compEnvC scope cl C X.env) fp) cA W0 elt fe)
    (hix : ∀ i ∈ ix, i ∈ own.map (·.2) := by decide) (hs : ∀ x, foldedSetIterable iter X.env x = pure x := by intro _; rfl) : AS X cA Wx (.Assign [.Name y py] (.ListComp elt [⟨tg, iter, ifs, 0⟩] scope pos) spos) (aSetL q i (aLc (own.map (·.2)) fi g tf fe)) := by
  obtain ⟨wi, pi, hi⟩ := hi
  exact ⟨_, ps_setLc hc hN hy hyl hsw pi ok (fun s H C cl fp => (hg s H C cl fp).pg) (fun s H C cl fp => (ht s H C cl fp).ex) (fun s H C cl fp => (he s H C cl fp).pe) hs,
    fun W sv s M H D so co h => lc_read hix hi W sv s M H _ so co (setLc_core so h)⟩

/-! ### what is walked -/
def strItems (s : Str) : List PyData := s.cps.toList.map fun c => .str ⟨#[c]⟩
theorem walk_any {K : PySem.W.Frag} {a : Addr} {n : Nat} : Walk (Itl K a) n (fun H => ∃ us, SqL K H a us ∧ us.length = n) (fun i H x H' => H' = H ∧ ∀ us, SqL K H a us → us[i]? = some x) :=
  ⟨fun i _ hi ⟨us, q, e⟩ => ⟨us, us[i]'(by omega), q, by simp [show i < us.length by omega]⟩, fun _ ⟨us, q, e⟩ => ⟨us, q, by omega⟩, fun _ _ _ _ _ _ y => y⟩
theorem walk_anyT {K : PySem.W.Frag} {a : Addr} {n : Nat} : Walk (Itt K a) n (fun H => ∃ us, SqT K H a us ∧ us.length = n) (fun i H x H' => H' = H ∧ ∀ us, SqT K H a us → us[i]? = some x) :=
  ⟨fun i _ hi ⟨us, q, e⟩ => ⟨us, us[i]'(by omega), q, by simp [show i < us.length by omega]⟩, fun _ ⟨us, q, e⟩ => ⟨us, q, by omega⟩, fun _ _ _ _ _ _ y => y⟩
def srcOf : Dt → Src
  | .cell b i => some (b, i)
  | _ => none
theorem lstOf_intact {x : Dt} {M1 M2 : Mem} (h : Intact (srcOf x) M1 M2) : lstOf M2 x = lstOf M1 x := by
  cases x with
  | p d => cases d <;> rfl
  | cell b i =>
    have e := h b i rfl
    simp only [lstOf, e]
theorem Rv.mono2 {K : PySem.W.Frag} {W W' : Wd} {v : V} {d : Dt} (g : Same W.G W'.G) (l : ∀ b i a, W.at_ b i = some a → W'.at_ b i = some a) (h : Rv K W v d) : Rv K W' v d := by
  cases d with
  | p d => exact Rp.mono g h
  | cell b i =>
    obtain ⟨a, e, h⟩ := h
    exact ⟨a, e, l _ _ _ h⟩
theorem RpAll.at_ {K : PySem.W.Frag} {G : Hp} {us : List V} {ds : List PyData} {i : Nat} {v : V} (r : RpAll K G us ds) (h : us[i]? = some v) : ∃ d, ds[i]? = some d ∧ Rp K G v d := r.get h
/-- a list, a tuple, a text -/
def aSeqI (f : SS → Mem → Rs Dt) : SS → Mem → Rs (List PyData × Src) := fun s M => (f s M).bind fun x M1 => match lstOf M1 x with
  | some ds => .ok (ds, srcOf x) M1
  | none => match tupOf x with
    | some ds => .ok (ds, none) M1
    | none => match strOf x with
      | some z => .ok (strItems z, none) M1
      | none => .st
theorem ai_seq (he : AE X cA Wx e f) : AI X cA Wx tg e (aSeqI f) := by
  obtain ⟨te, pe, he⟩ := he
  have por : PI X tg e (fun σ H R => iList X.K te σ H R ∨ iTup X.K te σ H R ∨ iStr te σ H R) := ⟨fun pins s σ H R I h => by
    rcases h with h | h | h
    · exact (pi_list pe).run pins s σ H R I h
    · exact (pi_tup pe).run pins s σ H R I h
    · exact (pi_str pe).run pins s σ H R I h⟩
  refine ⟨_, por, fun W sv s M H R so co h => ?_⟩
  unfold aSeqI at h
  cases hr : f s M with
  | ex c M1 =>
    rw [hr] at h
    refine .inl (he W sv s M H _ so co ?_)
    rw [hr]
    exact h
  | st =>
    rw [hr] at h
    exact h.elim
  | ok x M1 =>
    rw [hr] at h
    simp only [Rs.bind] at h
    split at h
    · rename_i ds e1
      refine .inl (he W sv s M H _ so co ?_)
      rw [hr]
      intro W1 v H1 l1 c1 r1
      obtain ⟨a1, vs, rfl, k1, rr⟩ := lstOf_rd c1 r1 e1
      refine ⟨a1, rfl, ⟨vs, sqL_rd k1⟩, ?_⟩
      refine h W1 H1 _ _ _ l1 c1 walk_any (fun W2 M2 H2 g2 a2 c2 it => ?_) (fun i Hx v Hx' W2 M2 hi l2 a2 c2 it y => ?_)
      · obtain ⟨a3, us, e3, k3, r3⟩ := lstOf_rd c2 (r1.mono2 g2 a2) ((lstOf_intact it).trans e1)
        cases e3
        exact ⟨us, sqL_rd k3, r3.length⟩
      · obtain ⟨a3, us, e3, k3, r3⟩ := lstOf_rd c2 (r1.mono2 l2 a2) ((lstOf_intact it).trans e1)
        cases e3
        obtain ⟨ey, hy⟩ := y
        obtain ⟨d, e4, r4⟩ := r3.get (hy us (sqL_rd k3))
        rw [ey]
        exact ⟨W2, d, Le.refl _, c2, e4, r4⟩
    · split at h
      · rename_i ds e1
        refine .inr (.inl (he W sv s M H _ so co ?_))
        rw [hr]
        intro W1 v H1 l1 c1 r1
        obtain ⟨a1, vs, rfl, k1, rr⟩ := tupOf_rd c1 r1 e1
        refine ⟨a1, rfl, ⟨vs, k1⟩, ?_⟩
        refine h W1 H1 _ _ _ l1 c1 walk_anyT (fun W2 M2 H2 g2 a2 c2 it => ?_) (fun i Hx v Hx' W2 M2 hi l2 a2 c2 it y => ?_)
        · obtain ⟨a3, us, e3, k3, r3⟩ := tupOf_rd c2 (r1.mono2 g2 a2) e1
          cases e3
          exact ⟨us, k3, r3.length⟩
        · obtain ⟨a3, us, e3, k3, r3⟩ := tupOf_rd c2 (r1.mono2 l2 a2) e1
          cases e3
          obtain ⟨ey, hy⟩ := y
          obtain ⟨d, e4, r4⟩ := r3.get (hy us k3)
          rw [ey]
          exact ⟨W2, d, Le.refl _, c2, e4, r4⟩
      · split at h
        · rename_i z e1
          refine .inr (.inr (he W sv s M H _ so co ?_))
          rw [hr]
          intro W1 v H1 l1 c1 r1
          refine ⟨z, strOf_rd r1 e1, ?_⟩
          refine h W1 H1 _ _ _ l1 c1 (show Walk _ (strItems z).length _ _ by unfold strItems; rw [List.length_map, Array.length_toList]; exact walk_str) (fun _ _ _ _ _ _ _ => trivial) (fun i Hx v Hx' W2 M2 hi l2 a2 c2 it y => ?_)
          obtain ⟨ey, c, hc, rfl⟩ := y
          rw [ey]
          refine ⟨W2, .str ⟨#[c]⟩, Le.refl _, c2, ?_, .str _⟩
          unfold strItems
          rw [List.getElem?_map, Array.getElem?_toList, hc]
          rfl
        · exact h.elim
end
end DL

set_option Elab.async false
set_option linter.all false
set_option maxRecDepth 100000
/-! DL7: range, enumerate; defs and their calls. -/
namespace DL
open PySem PySem.Spec PyProof.Rows L2

section
variable {X : Cx} {cA : Nat → Addr} {Wx : WX} {e a b c o tg iter elt : Expr} {f fa fb fc fo fe : SS → Mem → Rs Dt} {fs : SS → Mem → Rs (List Dt)} {tf : SS → Mem → Rs Bool} {pos p tpos : Pos} {es ifs elts : List Expr} {kk : Nat}

/-! ### range, enumerate -/
def rgItems (lo : Int) (n : Nat) : List PyData := (List.range n).map fun i => .int (lo + (i : Nat))
theorem rgItems_get {lo : Int} {n i : Nat} (h : i < n) : (rgItems lo n)[i]? = some (.int (lo + (i : Nat))) := by
  unfold rgItems
  rw [List.getElem?_map, List.getElem?_range h]
  rfl
def aRange1 (f : SS → Mem → Rs Dt) : SS → Mem → Rs (List PyData × Src) := fun s M => (f s M).bind fun x M1 => match intOf x with
  | some j => if -(2 ^ 62) ≤ j ∧ j < 2 ^ 62 then .ok (rgItems 0 j.toNat, none) M1 else .st
  | none => .st
theorem ai_range1 (hg : Gl X "range") (hm : X.mg "range" = none) (he : AE X cA Wx a f) (hs : starEach [a] X.env = [(false, eval a X.env)] := by rfl) : AI X cA Wx tg (.Call (.Name "range" p) [a] [] pos) (aRange1 f) := by
  obtain ⟨te, pe, he⟩ := he
  refine ⟨_, pi_range1 hg hm (pa_cons pe pa_nil hs) hs, fun W sv s M H R so co h => ?_⟩
  refine he W sv s M H _ so co (PostI.bind h fun d M1 W1 v H1 _ l1 c1 r1 h1 => ?_)
  split at h1
  · rename_i j e1
    by_cases z : -(2 ^ 62) ≤ j ∧ j < 2 ^ 62
    · rw [if_pos z] at h1
      refine ⟨j, by rw [intOf_rd r1 e1], z.1, z.2, ?_⟩
      refine h1 W1 H1 _ _ _ (Le.refl _) c1 (show Walk _ (rgItems 0 j.toNat).length _ _ by unfold rgItems; rw [List.length_map, List.length_range]; exact walk_range) (fun _ _ _ _ _ _ _ => trivial) (fun i Hx v Hx' W2 M2 hi l2 a2 c2 it y => ?_)
      obtain ⟨ey, rfl⟩ := y
      rw [ey]
      have hi : i < j.toNat := by
        unfold rgItems at hi
        simpa using hi
      exact ⟨W2, _, Le.refl _, c2, rgItems_get hi, .int _⟩
    · rw [if_neg z] at h1
      exact h1.elim
  · exact h1.elim
def aRange2 (f g : SS → Mem → Rs Dt) : SS → Mem → Rs (List PyData × Src) := fun s M => (f s M).bind fun x M1 => (g s M1).bind fun y M2 => match intOf x, intOf y with
  | some i, some j => if (-(2 ^ 62) ≤ i ∧ i < 2 ^ 62) ∧ -(2 ^ 62) ≤ j ∧ j < 2 ^ 62 then .ok (rgItems i (j - i).toNat, none) M2 else .st
  | _, _ => .st
theorem ai_range2 (hg : Gl X "range") (hm : X.mg "range" = none) (he : AE X cA Wx a fa) (hb : AE X cA Wx b fb) (hs : starEach [a, b] X.env = [(false, eval a X.env), (false, eval b X.env)] := by rfl) (hs2 : starEach [b] X.env = [(false, eval b X.env)] := by rfl) :
    AI X cA Wx tg (.Call (.Name "range" p) [a, b] [] pos) (aRange2 fa fb) := by
  obtain ⟨te, pe, he⟩ := he
  obtain ⟨tb, pb, hb⟩ := hb
  refine ⟨_, pi_range2 hg hm (pa_cons pe (pa_cons pb pa_nil hs2) (by rw [hs, hs2])) hs hs2, fun W sv s M H R so co h => ?_⟩
  refine he W sv s M H _ so co (PostI.bind h fun d M1 W1 v H1 _ l1 c1 r1 h1 => ?_)
  refine hb W1 sv s M1 H1 _ (so.mono l1) c1 (PostI.bind h1 fun d2 M2 W2 v2 H2 _ l2 c2 r2 h2 => ?_)
  split at h2
  · rename_i i j e1 e2
    by_cases z : (-(2 ^ 62) ≤ i ∧ i < 2 ^ 62) ∧ -(2 ^ 62) ≤ j ∧ j < 2 ^ 62
    · rw [if_pos z] at h2
      refine ⟨i, j, by rw [intOf_rd r1 e1, intOf_rd r2 e2], ⟨z.1.1, z.1.2, z.2.1, z.2.2⟩, ?_⟩
      refine h2 W2 H2 _ _ _ (Le.refl _) c2 (show Walk _ (rgItems i (j - i).toNat).length _ _ by unfold rgItems; rw [List.length_map, List.length_range]; exact walk_range) (fun _ _ _ _ _ _ _ => trivial) (fun k Hx v Hx' W3 M3 hi l3 a3 c3 it y => ?_)
      obtain ⟨ey, rfl⟩ := y
      rw [ey]
      have hi : k < (j - i).toNat := by
        unfold rgItems at hi
        simpa using hi
      exact ⟨W3, _, Le.refl _, c3, rgItems_get hi, .int _⟩
    · rw [if_neg z] at h2
      exact h2.elim
  · exact h2.elim
def enItems (ds : List PyData) : List PyData := (List.range ds.length).zipWith (fun i d => .tuple [.int (i : Nat), d]) ds
theorem enItems_length {ds : List PyData} : (enItems ds).length = ds.length := by
  simp [enItems]
theorem enItems_get {ds : List PyData} {i : Nat} {d : PyData} (h : ds[i]? = some d) : (enItems ds)[i]? = some (.tuple [.int (i : Nat), d]) := by
  unfold enItems
  obtain ⟨hi, e⟩ := List.getElem?_eq_some_iff.mp h
  rw [List.getElem?_zipWith, List.getElem?_range hi, h]
theorem enItems_of_length {ds : List PyData} {i : Nat} (h : i < ds.length) : ∃ d, ds[i]? = some d := ⟨ds[i], by simp [h]⟩
def aEnum (f : SS → Mem → Rs Dt) : SS → Mem → Rs (List PyData × Src) := fun s M => (f s M).bind fun x M1 => match lstOf M1 x with
  | some ds => .ok (enItems ds, srcOf x) M1
  | none => .st
theorem walk_enumA {K : PySem.W.Frag} {a : Addr} {n : Nat} : Walk (Ite K a) n (fun H => ∃ us, SqL K H a us ∧ us.length = n) (fun i H v H' => ∃ T x, v = .ref T ∧ H T = none ∧ H' = upd H T (.tup [.int (i : Nat), x]) ∧ ∀ xs, SqL K H a xs → xs[i]? = some x) :=
  ⟨fun i _ hi ⟨us, q, e⟩ => ⟨us, us[i]'(by omega), q, by simp [show i < us.length by omega]⟩, fun _ ⟨us, q, e⟩ => ⟨us, q, by omega⟩, fun _ _ _ _ _ _ y => y⟩
theorem ai_enum (hg : Gl X "enumerate") (hm : X.mg "enumerate" = none) (he : AE X cA Wx e f) (hs : starEach [e] X.env = [(false, eval e X.env)] := by rfl) : AI X cA Wx (.Tuple elts kk tpos) (.Call (.Name "enumerate" p) [e] [] pos) (aEnum f) := by
  obtain ⟨te, pe, he⟩ := he
  refine ⟨_, pi_enum hg hm (pa_cons pe pa_nil hs) hs, fun W sv s M H R so co h => ?_⟩
  refine he W sv s M H _ so co (PostI.bind h fun x M1 W1 v H1 _ l1 c1 r1 h1 => ?_)
  split at h1
  · rename_i ds e1
    obtain ⟨a1, vs, rfl, k1, rr⟩ := lstOf_rd c1 r1 e1
    refine ⟨a1, vs, rfl, sqL_rd k1, ?_⟩
    refine h1 W1 H1 _ _ _ (Le.refl _) c1 (show Walk _ (enItems ds).length _ _ by rw [enItems_length]; exact walk_enumA) (fun W2 M2 H2 g2 a2 c2 it => ?_) (fun i Hx v Hx' W2 M2 hi l2 a2 c2 it y => ?_)
    · obtain ⟨a3, us, e3, k3, r3⟩ := lstOf_rd c2 (r1.mono2 g2 a2) ((lstOf_intact it).trans e1)
      cases e3
      exact ⟨us, sqL_rd k3, r3.length⟩
    · obtain ⟨a3, us, e3, k3, r3⟩ := lstOf_rd c2 (r1.mono2 l2 a2) ((lstOf_intact it).trans e1)
      cases e3
      obtain ⟨T, z, rfl, hT, rfl, hy⟩ := y
      obtain ⟨d, e4, r4⟩ := r3.get (hy us (sqL_rd k3))
      exact ⟨W2.put T (.tup [.int (i : Nat), z]), _, c2.lePut hT, c2.put hT, enItems_get e4, Rp.tup (.inl (.inl upd_same)) (.cons (.int _) (.cons (r4.mono (c2.lePut hT).G) .nil))⟩
  · exact h1.elim

/-! ### a def -/
def spF (K : PySem.W.Frag) (cA : Nat → Addr) (n : Nat) (F : List Dt → Mem → Rs Dt) : Sp := fun vs H Q E => ∃ (W : Wd) (M : Mem) (ds : List Dt), ds.length = n ∧ Conc K cA W M H ∧ RvAll K W vs ds ∧ PostG K cA (Rv K) (F ds M) W Q E
def startS (n : Nat) (ds : List Dt) : SS := ds.map some ++ List.replicate (n - ds.length) none
instance : ∀ c : Cell, Decidable c.flat := fun c => by
  cases c
  · exact isTrue trivial
  · exact isFalse fun h => h
  · exact isTrue trivial
  · exact isTrue trivial
  · exact isFalse fun h => h
  · exact isTrue trivial
/-- what a call hands out: an own list becomes data -/
def outD (d : Dt) (M : Mem) (n : Nat) : Rs Dt := match d with
  | .p d => .ok (.p d) (M.cut n)
  | .cell false i => .ok (.cell false i) (M.cut n)
  | .cell true i => if i < n then .ok (.cell true i) (M.cut n) else (toP (.cell true i) M).bind fun d M2 => .ok (.p d) (M2.cut n)
/-- .. stays a cell, the caller's own -/
def outC (d : Dt) (M : Mem) (n : Nat) : Rs Dt := match d with
  | .p d => .ok (.p d) (M.cut n)
  | .cell false i => .ok (.cell false i) (M.cut n)
  | .cell true i => if i < n then .ok (.cell true i) (M.cut n) else match M.m[i]? with
    | some c => if c.flat then .ok (.cell true n) ((M.cut n).add true c) else .st
    | none => .st
def exitF (out : Dt → Mem → Nat → Rs Dt) (N : Nat) (fb : SS → Mem → Rs Fl) : List Dt → Mem → Rs Dt := fun ds M => match fb (startS N ds) M with
  | .ok (.nx _) M1 => .ok (.p .none) (M1.cut M.m.length)
  | .ok (.rt d) M1 => out d M1 M.m.length
  | .ok _ _ => .st
  | .ex c M1 => .ex c (M1.cut M.m.length)
  | .st => .st
theorem SlOk.start {K : PySem.W.Frag} {W : Wd} {N : List Str} {vs : List V} {ds : List Dt} (r : RvAll K W vs ds) : SlOk K W (L2.start N vs) (startS N.length ds) := by
  unfold L2.start startS
  have hl := r.length
  refine ⟨by simp [hl], fun i d e => ?_⟩
  by_cases hi : i < ds.length
  · rw [List.getElem?_append_left (by simpa using hi), List.getElem?_map] at e
    cases q : ds[i]? with
    | none =>
      rw [q] at e
      cases e
    | some d' =>
      rw [q] at e
      cases e
      have : ∀ {vs : List V} {ds : List Dt} {i : Nat} {d : Dt}, RvAll K W vs ds → ds[i]? = some d → ∃ v, vs[i]? = some v ∧ Rv K W v d := by
        intro vs ds i d r
        induction r generalizing i with
        | nil => intro e; simp at e
        | cons h r ih =>
          intro e
          cases i with
          | zero =>
            simp at e
            subst e
            exact ⟨_, rfl, h⟩
          | succ i => 
            obtain ⟨v, h1, h2⟩ := ih (i := i) (by simpa using e)
            exact ⟨v, by simpa using h1, h2⟩
      obtain ⟨v, e2, r2⟩ := this r q
      exact ⟨v, by rw [List.getElem?_append_left (by rw [List.length_map, hl]; exact hi), List.getElem?_map, e2]; rfl, r2⟩
  · rw [List.getElem?_append_right (by simpa using hi), List.getElem?_replicate] at e
    split at e <;> cases e
theorem ExOk.cut {K : PySem.W.Frag} {W : Wd} {H : Hp} {c : Exn} {cls : Value} {dd : Option Addr} {n : Nat} (h : ExOk K cA W H c cls dd) : ExOk K cA (W.cut n) H c cls dd := h
theorem out_post {K : PySem.W.Frag} {W W' : Wd} {M M1 : Mem} {H' : Hp} {v : V} {d : Dt} {Q : VK} {E : XK} {H : Hp} (co : Conc K cA W M H) (l : Le W W') (c' : Conc K cA W' M1 H') (r : Rv K W' v d) (h : PostG K cA (Rv K) (outD d M1 M.m.length) W Q E) : Q v H' := by
  cases d with
  | p d => exact h (W'.cut M.m.length) v H' (l.cut co) (c'.cut _) r
  | cell b i =>
    cases b with
    | false => exact h (W'.cut M.m.length) v H' (l.cut co) (c'.cut _) (Rv.cut trivial r)
    | true =>
      simp only [outD] at h
      by_cases z : i < M.m.length
      · rw [if_pos z] at h
        refine h (W'.cut M.m.length) v H' (l.cut co) (c'.cut _) ?_
        obtain ⟨a, rfl, e⟩ := r
        refine ⟨a, rfl, ?_⟩
        show (W'.m.take M.m.length)[i]? = some a
        rw [List.getElem?_take, if_pos z]
        exact e
      · rw [if_neg z] at h
        cases q : toP (.cell true i) M1 with
        | ok p M2 =>
          rw [q] at h
          obtain ⟨W2, l2, c2, r2⟩ := toP_ok c' r q
          exact h (W2.cut M.m.length) v H' ((l.trans l2).cut co) (c2.cut _) r2
        | ex c M2 => exact (toP_ex q).elim
        | st =>
          rw [q] at h
          exact h.elim
theorem CellOk.flat {K : PySem.W.Frag} {W W' : Wd} {H : Hp} {a : Addr} {c : Cell} (hf : c.flat) (e : W'.G = W.G) (h : CellOk K cA W H a c) : CellOk K cA W' H a c := by
  cases c with
  | dead => trivial
  | obj c fs => exact hf.elim
  | lst ds => obtain ⟨vs, q, r⟩ := h; exact ⟨vs, q, by rw [e]; exact r⟩
  | lsd ds => exact hf.elim
  | dK ds => obtain ⟨vs, q, r⟩ := h; exact ⟨vs, q, by rw [e]; exact r⟩
  | dT ds => obtain ⟨vs, q, r⟩ := h; exact ⟨vs, q, by rw [e]; exact r⟩
theorem Conc.keepCell {K : PySem.W.Frag} {W : Wd} {M : Mem} {H : Hp} {n i : Nat} {a : Addr} {c : Cell} (co : Conc K cA W M H) (e : W.m[i]? = some a) (m : M.m[i]? = some c) (hi : ¬ i < n) (hf : c.flat) : Conc K cA ((W.cut n).add true a) ((M.cut n).add true c) H := by
  have ea : W.at_ true i = some a := e
  have key : ∀ {b j x}, (W.cut n).at_ b j = some x → x ≠ a := fun {b j x} z y => by
    subst y
    obtain ⟨h1, h2⟩ := co.inj b j true i x (Wd.cut_at z) ea
    subst h1
    subst h2
    have z : (W.m.take n)[j]? = some x := z
    rw [List.getElem?_take, if_neg hi] at z
    cases z
  have hl : (W.cut n).m.length = (M.cut n).m.length := by simp [Wd.cut, Mem.cut, co.lm]
  refine ⟨?_, co.lo, fun b j b' k x z z' => ?_, ?_, fun b j x z => ?_, fun b j x d z mj l => ?_, fun y hy => ?_⟩
  · show ((W.cut n).m ++ [a]).length = ((M.cut n).m ++ [c]).length
    simp [hl]
  · rcases Wd.add_cases z with z1 | ⟨h1, h2, h3⟩
    · rcases Wd.add_cases z' with z2 | ⟨_, h2, _⟩
      · exact co.inj b j b' k x (Wd.cut_at z1) (Wd.cut_at z2)
      · exact absurd h2 (key z1)
    · rcases Wd.add_cases z' with z2 | ⟨h4, _, h6⟩
      · exact absurd h2 (key z2)
      · exact ⟨h1.trans h4.symm, h3.trans h6.symm⟩
  · rw [Wd.add_G]
    exact co.sub
  · rcases Wd.add_cases z with z1 | ⟨rfl, rfl, rfl⟩
    · exact co.ex b j x (Wd.cut_at z1)
    · exact co.ex true i x ea
  · rcases Wd.add_cases z with z1 | ⟨rfl, rfl, rfl⟩
    · rcases Mem.add_cases mj with m1 | ⟨h1, _, h3⟩
      · obtain ⟨g, k⟩ := co.ok b j x d (Wd.cut_at z1) (Mem.cut_at m1) l
        exact ⟨by rw [Wd.add_G]; exact g, (CellOk.cut (n := n) k).mono Wd.leAdd rfl⟩
      · exfalso
        subst h1
        have z2 := (List.getElem?_eq_some_iff.mp (show (W.cut n).m[j]? = some x from z1)).1
        rw [hl, h3] at z2
        exact Nat.lt_irrefl _ z2
    · rcases Mem.add_cases mj with m1 | ⟨_, rfl, _⟩
      · exfalso
        have z2 := (List.getElem?_eq_some_iff.mp (show (M.cut n).m[(W.cut n).m.length]? = some d from m1)).1
        rw [hl] at z2
        exact Nat.lt_irrefl _ z2
      · obtain ⟨g, k⟩ := co.ok true i x d ea m l
        exact ⟨by rw [Wd.add_G]; exact g, CellOk.flat (W := W) hf (by rw [Wd.add_G]; rfl) k⟩
  · rw [Wd.add_fr] at hy
    obtain ⟨f1, f2, f3⟩ := co.fr y hy
    refine ⟨f1, by rw [Wd.add_G]; exact f2, fun b j z => ?_⟩
    rcases Wd.add_cases z with z1 | ⟨rfl, z2, rfl⟩
    · exact f3 b j (Wd.cut_at z1)
    · exact f3 true i (by rw [z2]; exact ea)
theorem outC_post {K : PySem.W.Frag} {W W' : Wd} {M M1 : Mem} {H' : Hp} {v : V} {d : Dt} {Q : VK} {E : XK} {H : Hp} (co : Conc K cA W M H) (l : Le W W') (c' : Conc K cA W' M1 H') (r : Rv K W' v d) (h : PostG K cA (Rv K) (outC d M1 M.m.length) W Q E) : Q v H' := by
  cases d with
  | p d => exact h (W'.cut M.m.length) v H' (l.cut co) (c'.cut _) r
  | cell b i =>
    cases b with
    | false => exact h (W'.cut M.m.length) v H' (l.cut co) (c'.cut _) (Rv.cut trivial r)
    | true =>
      simp only [outC] at h
      by_cases z : i < M.m.length
      · rw [if_pos z] at h
        refine h (W'.cut M.m.length) v H' (l.cut co) (c'.cut _) ?_
        obtain ⟨a, rfl, e⟩ := r
        refine ⟨a, rfl, ?_⟩
        show (W'.m.take M.m.length)[i]? = some a
        rw [List.getElem?_take, if_pos z]
        exact e
      · rw [if_neg z] at h
        obtain ⟨a, rfl, e⟩ := r
        split at h
        · rename_i c m
          by_cases hf : c.flat
          · rw [if_pos hf] at h
            have e' : W'.m[i]? = some a := e
            refine h ((W'.cut M.m.length).add true a) _ H' ((l.cut co).trans Wd.leAdd) (c'.keepCell e' m z hf) ⟨a, rfl, ?_⟩
            have hle : M.m.length ≤ W'.m.length := by
              have := (List.getElem?_eq_some_iff.mp e').1
              omega
            show (W'.m.take M.m.length ++ [a])[M.m.length]? = some a
            rw [List.getElem?_append_right (by rw [List.length_take]; omega), List.length_take]
            have : M.m.length - min M.m.length W'.m.length = 0 := by omega
            rw [this]
            rfl
          · rw [if_neg hf] at h
            exact h.elim
        · exact h.elim
/-- what a def hands out keeps to its end -/
def OutOk (K : PySem.W.Frag) (cA : Nat → Addr) (out : Dt → Mem → Nat → Rs Dt) : Prop := ∀ {W W' : Wd} {M M1 : Mem} {H' : Hp} {v : V} {d : Dt} {Q : VK} {E : XK} {H : Hp}, Conc K cA W M H → Le W W' → Conc K cA W' M1 H' → Rv K W' v d → PostG K cA (Rv K) (out d M1 M.m.length) W Q E → Q v H'
theorem outD_ok {K : PySem.W.Frag} : OutOk K cA outD := out_post
theorem outC_ok {K : PySem.W.Frag} : OutOk K cA outC := outC_post
end

section
variable {P : Program} {w : World} {K : PySem.W.Frag} {mg : Str → Option Value} {base : Heap} {cA : Nat → Addr}
/-- a body's function keeps a def's promise -/
theorem body_ok {X : Cx} {N : List Str} {sts : List Stmt} {fb : SS → Mem → Rs Fl} {out : Dt → Mem → Nat → Rs Dt} {n : Nat} {vs : List V} {H : Hp} {Q : VK} {E : XK} (ho : OutOk X.K cA out) (h : ASs X cA (fun c d _ H => E c d H) sts fb)
    (hs : spF X.K cA n (exitF out N.length fb) vs H Q E) : ∃ t, PSs X sts t ∧ t { nx := fun _ H' => Q .non H', rt := Q } (L2.start N vs) H := by
  obtain ⟨W, M, ds, _, co, r, hp⟩ := hs
  obtain ⟨t, pt, h⟩ := h
  refine ⟨t, pt, h W _ (startS N.length ds) M H _ (SlOk.start r) co ?_⟩
  unfold exitF at hp
  cases z : fb (startS N.length ds) M with
  | ok x M1 =>
    rw [z] at hp
    cases x with
    | nx s => exact fun W' sv H' l c _ => hp (W'.cut _) _ H' (l.cut co) (c.cut _) Rp.non
    | rt d => exact fun W' v H' l c r => ho co l c r hp
    | bk s => exact hp.elim
    | ct s => exact hp.elim
  | ex c M1 =>
    rw [z] at hp
    exact fun W' sv H' cls dd l c e => hp (W'.cut _) H' cls dd (l.cut co) (c.cut _) e.cut
  | st =>
    rw [z] at hp
    exact hp.elim
/-- a def's promise where nothing around it shows a list or a tuple just now (HandS' FnOk, with that known) -/
structure FnG (P : Program) (w : World) (K : PySem.W.Frag) (mg : Str → Option Value) (base : Heap) (k : Nat) (f : Addr) (fd : FuncData) (ps : List Str) (sp : Sp) : Prop where
  len : ∀ vs H Q E, sp vs H Q E → vs.length = ps.length
  run : ∀ (A : Around), A.guards = some [] → ∀ (outer : List Env) (s : Shared) (H : Hp) (args : Args) (us : List Value) (vs : List V) (Q : VK) (E : XK), Room k A → Env0 P w K mg base A outer s H →
    BindsTo s fd args (ps.zip us) → Vals vs us → sp vs H Q E → codeAny (model P w) A (.call (.ref f) args) (CR (L2.CX P w) outer P w H s Q E) s
theorem FnG.mono {j k : Nat} {f : Addr} {fd : FuncData} {ps : List Str} {sp : Sp} (F : FnG P w K mg base j f fd ps sp) (h : j ≤ k) : FnG P w K mg base k f fd ps sp :=
  ⟨F.len, fun A ga outer s H args us vs Q E hr => F.run A ga outer s H args us vs Q E (hr.mono h)⟩
theorem guards_deeper {A : Around} {env : Env} (h : A.guards = some []) : (A.deeper env).guards = some [] := h
theorem fnG_of {qual name : Str} {args : Arguments} {sts : List Stmt} {sc : Scope} {N ps : List Str} {k : Nat} {sp : Sp} {f : Addr} {od an : Option Addr} {dV kV doc pm cdv ct oc : Value} {osl : Array (Option Value)}
    (lk : K.lookup f = some ⟨oc, od, .func (PySem.W.fnOf name qual args sts sc dV kV doc pm an cdv ct), osl⟩) (hcd : PySem.W.codeIn K cdv qual = true) (S : FnScope N ps sc) (len : ∀ vs H Q E, sp vs H Q E → vs.length = ps.length)
    (hbody : ∀ (A : Around), A.guards = some [] → ∀ (outer : List Env) (s : Shared) (H : Hp) (vs : List V) (Q : VK) (E : XK), Room k (A.deeper (envOfC qual sc s.heap.objs.size f cdv)) → sp vs H Q E →
      ∃ t, PSs (cxOf (L2.CX P w) P w K mg base N qual sc f cdv A outer s H E) sts t ∧ t { nx := fun _ H' => Q .non H', rt := Q } (L2.start N vs) H) :
    FnG P w K mg base (k + 1) f (PySem.W.fnOf name qual args sts sc dV kV doc pm an cdv ct) ps sp where
  len := len
  run := by
    intro A ga outer s H as us vs Q E hr e0 hb r hsp
    have kp : ∀ b o, base.get? b = some o → s.heap.get? b = some o := fun b o e => (e0.bs b o e).1
    refine codeAny_call_function hr.depth ((e0.mod.kin.keeps kp) _ _ lk) rfl S.co S.gen rfl (PySem.W.codeRec_of (e0.mod.kin.keeps kp) hcd) (hb _ _ _ _ ?_)
    refine wpAny_newFunctionEnv_cells S.kind (fun y hy => (S.par y.1 (List.of_mem_zip hy).1).elim .inl fun q => .inr ⟨q, PySem.W.cellsFrom_some _ _ _ (.inl q)⟩) ?_
    intro env he s1 x
    subst he
    obtain ⟨t, ht, hq⟩ := hbody A ga outer s H vs Q E (hr.deeper _) hsp
    refine ⟨(e0.mod.nolimit.keeps kp).keeps x.toInCall.keep, codeAny_func ?_⟩
    refine wpAny_mono (ht.run [] s1 _ H _ (inv_start S hr.hd e0 (len _ _ _ _ hsp) r x) hq) ?_ (fun _ _ hs => hs)
    intro fl s' hs
    cases fl
    case ret u =>
      obtain ⟨v, _, H', J, rv, q⟩ := hs
      exact ⟨v, H', J.os, J.bare, J.base, J.hok, rv, q⟩
    case next =>
      obtain ⟨_, H', J, q⟩ := hs
      exact ⟨V.non, H', J.os, J.bare, J.base, J.hok, rfl, q⟩
    case brk =>
      obtain ⟨_, _, _, q⟩ := hs
      exact False.elim q
    case cont =>
      obtain ⟨_, _, _, q⟩ := hs
      exact False.elim q
theorem fun_g {x qual : Str} {st : Stmt} {f : Addr} {fd : FuncData} {N ps : List Str} {k : Nat} {sp : Sp} (F : Fun K x qual st f fd) (S : FnScope N ps (defScope st)) (len : ∀ vs H Q E, sp vs H Q E → vs.length = ps.length)
    (hbody : ∀ (cdv : Value) (A : Around), A.guards = some [] → ∀ (outer : List Env) (s : Shared) (H : Hp) (vs : List V) (Q : VK) (E : XK), Room k (A.deeper (envOfC qual (defScope st) s.heap.objs.size f cdv)) → sp vs H Q E →
      ∃ t, PSs (cxOf (L2.CX P w) P w K mg base N qual (defScope st) f cdv A outer s H E) (defBody st) t ∧ t { nx := fun _ H' => Q .non H', rt := Q } (L2.start N vs) H) : FnG P w K mg base (k + 1) f fd ps sp := by
  obtain ⟨oc, od, kV, doc, pm, an, cdv, ct, osl, rfl, lk, hcd⟩ := F.ex
  exact fnG_of lk hcd S len fun A ga outer s H vs Q E hr hsp => hbody cdv A ga outer s H vs Q E hr hsp
theorem fund_g {x qual : Str} {params : Arguments} {sts : List Stmt} {sc : Scope} {dvs : List V} {kws : List (Str × V)} {f : Addr} {fd : FuncData} {N ps : List Str} {k : Nat} {sp : Sp} (F : FunD K x qual params sts sc dvs kws f fd) (S : FnScope N ps sc)
    (len : ∀ vs H Q E, sp vs H Q E → vs.length = ps.length)
    (hbody : ∀ (cdv : Value) (A : Around), A.guards = some [] → ∀ (outer : List Env) (s : Shared) (H : Hp) (vs : List V) (Q : VK) (E : XK), Room k (A.deeper (envOfC qual sc s.heap.objs.size f cdv)) → sp vs H Q E →
      ∃ t, PSs (cxOf (L2.CX P w) P w K mg base N qual sc f cdv A outer s H E) sts t ∧ t { nx := fun _ H' => Q .non H', rt := Q } (L2.start N vs) H) : FnG P w K mg base (k + 1) f fd ps sp := by
  obtain ⟨oc, od, dV, kV, doc, pm, an, cdv, ct, osl, rfl, lk, hcd, _, _⟩ := F.ex
  exact fnG_of lk hcd S len fun A ga outer s H vs Q E hr hsp => hbody cdv A ga outer s H vs Q E hr hsp
theorem spF_len {n : Nat} {F : List Dt → Mem → Rs Dt} {vs : List V} {H : Hp} {Q : VK} {E : XK} (h : spF K cA n F vs H Q E) : vs.length = n := by
  obtain ⟨W, M, ds, hl, _, r, _⟩ := h
  rw [r.length, hl]
/-- a def of the module as callers know it -/
structure CalF (P : Program) (w : World) (K : PySem.W.Frag) (mg : Str → Option Value) (base : Heap) (cA : Nat → Addr) (x : Str) (k n : Nat) (dfl : List PyData) (F : List Dt → Mem → Rs Dt) : Prop where
  ex : ∃ (f : Addr) (fd : FuncData) (ps : List Str) (dvs : List V) (ds : List Value), FnG P w K mg base k f fd ps (spF K cA n F) ∧ mg x = some (.ref f) ∧ PySem.W.keepIn K (.ref f) = true ∧ Binds K fd ps ds ∧ Vals dvs ds ∧ ∀ G, RpAll K G dvs dfl
theorem rvAll_p {W : Wd} : ∀ {vs : List V} {ds : List PyData}, RpAll K W.G vs ds → RvAll K W vs (ds.map Dt.p)
  | _, _, .nil => .nil
  | _, _, .cons h r => .cons h (rvAll_p r)
end
section
variable {X : Cx} {cA : Nat → Addr} {Wx : WX} {e : Expr} {fs : SS → Mem → Rs (List Dt)} {pos p : Pos} {es : List Expr} {x : Str} {k j n : Nat} {dfl : List PyData} {F : List Dt → Mem → Rs Dt}
/-- what a callee lets out is taken -/
def TkX (X : Cx) (Wx : WX) : Prop := ∀ σ, PassesAt (L2.CX X.prog X.w) X σ (fun c d H => Wx c d σ H)
theorem tk_of (tk : Takes X Wx) : TkX X Wx := fun σ => passAt tk σ
theorem tk_0 : TkX X W0 := fun σ => passAt takes0 σ
theorem run_fnG {pins : List (Addr × Obj)} {σ : L2.St} {H : Hp} {s : Shared} {Q : VK} {E : XK} {us ds : List Value} {vs dvs : List V} {f : Addr} {fd : FuncData} {ps : List Str} {sp : Sp} (F : FnG X.prog X.w X.K X.mg X.base k f fd ps sp) (ga : X.A.guards = some []) (hr : Room k X.A)
    (hb : Binds X.K fd ps ds) (hd : Vals dvs ds) (hx : PassesAt (L2.CX X.prog X.w) X σ E) (I : Inv X pins σ H s) (r : Vals vs us) (h : sp (vs ++ dvs) H Q E) : wpAny (model X.prog X.w) X.A (call (.ref f) us) (EP X pins σ Q) X.xe s := by
  have ra := r.append hd
  have hl : (us ++ ds).length = ps.length := ra.length.symm.trans (F.len _ _ _ _ h)
  refine wpAny_call (codeAny_mono (F.run X.A ga X.stack s H ⟨us, []⟩ _ _ Q E hr I.env0 (hb s us I.kIn hl) ra h) ?_)
  intro r s' hq
  cases r with
  | error e => exact hx pins H s e s' I hq
  | ok fl =>
    cases fl
    case ret u => exact I.after hq
    all_goals exact hq.elim
def aCall (F : List Dt → Mem → Rs Dt) (dfl : List PyData) (fs : SS → Mem → Rs (List Dt)) : SS → Mem → Rs Dt := fun s M => (fs s M).bind fun xs M1 => F (xs ++ dfl.map Dt.p) M1
theorem ae_call (c : CalF X.prog X.w X.K X.mg X.base cA x k n dfl F) (ga : X.A.guards = some []) (hr : Room j X.A) (hk : k ≤ j) (hg : Gl X x) (tk : TkX X Wx) (ha : AA X cA Wx (e :: es) fs) (hn : ∀ s M xs M1, fs s M = .ok xs M1 → xs.length + dfl.length = n) (hdb : (x == ("__debug__" : Str)) = false := by decide)
    (he : starEach (e :: es) X.env = (false, eval e X.env) :: starEach es X.env := by rfl) (hpl : (backTo pos (starEach es X.env)).any (·.1) = false := by rfl) : AE X cA Wx (.Call (.Name x p) (e :: es) [] pos) (aCall F dfl fs) := by
  obtain ⟨f, fd, ps, dvs, ds, G, hm, hkp, hb, hd, rd⟩ := c
  obtain ⟨ta, pa, ha⟩ := ha
  refine ⟨tCallSD (spF X.K cA n F) dvs (fun σ c d H => Wx c d σ H) ta, ⟨fun pins s σ H Q I h => ?_⟩, fun W sv s M H Q so co h => ?_⟩
  · refine wpAny_Call_Name_kw (ld_glob I hg hm ?_ hdb)
    refine PySem.W.callWith_K (h₀ := X.base) I.ok.mod.kin hkp (thn (pa.run pos pins s σ H _ I h) ?_) he hpl
    rintro us s1 ⟨vs, H1, I1, r, q⟩
    exact ⟨I1.kIn, run_fnG G ga (hr.mono hk) hb hd (tk σ) I1 r q⟩
  · refine ha W sv s M H _ so co (PostG.bind h fun xs M1 W1 vs H1 q l1 c1 r1 h1 => ?_)
    exact ⟨W1, M1, xs ++ dfl.map Dt.p, by rw [List.length_append, List.length_map]; exact hn s M xs M1 q, c1, r1.append (rvAll_p (rd _)), h1⟩
/-- f() -/
theorem ae_call0 (c : CalF X.prog X.w X.K X.mg X.base cA x k n dfl F) (ga : X.A.guards = some []) (hr : Room j X.A) (hk : k ≤ j) (hg : Gl X x) (tk : TkX X Wx) (hn : dfl.length = n) (hdb : (x == ("__debug__" : Str)) = false := by decide) : AE X cA Wx (.Call (.Name x p) [] [] pos) (aCall F dfl aNil) := by
  obtain ⟨f, fd, ps, dvs, ds, G, hm, hkp, hb, hd, rd⟩ := c
  refine ⟨tCallSD (spF X.K cA n F) dvs (fun σ c d H => Wx c d σ H) tNil, ⟨fun pins s σ H Q I h => ?_⟩, fun W sv s M H Q so co h => ?_⟩
  · refine wpAny_Call_Name_kw (ld_glob I hg hm ?_ hdb)
    exact PySem.W.callWith_K0 I.kIn hkp (run_fnG (us := []) G ga (hr.mono hk) hb hd (tk σ) I .nil h)
  · exact ⟨W, M, [] ++ dfl.map Dt.p, by simpa using hn, co, RvAll.append .nil (rvAll_p (rd _)), h⟩
theorem aa_len_nil {s : SS} {M M1 : Mem} {xs : List Dt} (h : aNil s M = .ok xs M1) : xs.length = 0 := by
  cases h
  rfl
theorem aa_len_cons {f : SS → Mem → Rs Dt} {fs : SS → Mem → Rs (List Dt)} {m : Nat} (ih : ∀ {s M xs M1}, fs s M = .ok xs M1 → xs.length = m) {s : SS} {M M1 : Mem} {xs : List Dt} (h : aCons f fs s M = .ok xs M1) : xs.length = m + 1 := by
  unfold aCons at h
  cases q : f s M with
  | ok d M2 =>
    rw [q] at h
    simp only [Rs.bind] at h
    cases q2 : fs s M2 with
    | ok ds M3 =>
      rw [q2] at h
      cases h
      rw [List.length_cons, ih q2]
    | ex c M3 =>
      rw [q2] at h
      cases h
    | st =>
      rw [q2] at h
      cases h
  | ex c M2 =>
    rw [q] at h
    cases h
  | st =>
    rw [q] at h
    cases h
end
end DL

set_option Elab.async false
set_option linter.all false
set_option maxRecDepth 100000
/-! DL8: methods, instances, properties, texts shown, kinds asked, further rules. -/
namespace DL
open PySem PySem.Spec PyProof.Rows L2

section
variable {P : Program} {w : World} {K : PySem.W.Frag} {mg : Str → Option Value} {base : Heap} {cA : Nat → Addr}
/-- a method of the class numbered c; n counts self -/
structure CalM (P : Program) (w : World) (K : PySem.W.Frag) (mg : Str → Option Value) (base : Heap) (cA : Nat → Addr) (c : Nat) (m : Str) (k n : Nat) (dfl : List PyData) (F : List Dt → Mem → Rs Dt) : Prop where
  ex : ∃ (f : Addr) (fd : FuncData) (ps : List Str) (dvs : List V) (ds : List Value), FnG P w K mg base k f fd ps (spF K cA n F) ∧ Cls K (cA c) ∧ Meth K (cA c) m f ∧ Binds K fd ps ds ∧ Vals dvs ds ∧ ∀ G, RpAll K G dvs dfl
/-- the class numbered c is made by its __init__; n counts self -/
structure CalK (P : Program) (w : World) (K : PySem.W.Frag) (mg : Str → Option Value) (base : Heap) (cA : Nat → Addr) (x : Str) (c k n : Nat) (dfl : List PyData) (F : List Dt → Mem → Rs Dt) : Prop where
  ex : ∃ (f : Addr) (fd : FuncData) (ps : List Str) (dvs : List V) (ds : List Value), FnG P w K mg base k f fd ps (spF K cA n F) ∧ Mk K (cA c) f ∧ mg x = some (.ref (cA c)) ∧ Binds K fd ps ds ∧ Vals dvs ds ∧ ∀ G, RpAll K G dvs dfl
/-- a property -/
structure CalP (P : Program) (w : World) (K : PySem.W.Frag) (mg : Str → Option Value) (base : Heap) (cA : Nat → Addr) (c : Nat) (m : Str) (k : Nat) (F : List Dt → Mem → Rs Dt) : Prop where
  ex : ∃ (f p : Addr) (fd : FuncData) (ps : List Str), FnG P w K mg base k f fd ps (spF K cA 1 F) ∧ Cls K (cA c) ∧ PropOf K (cA c) m p f ∧ Binds K fd ps []
end

section
variable {X : Cx} {cA : Nat → Addr} {Wx : WX} {e a b c o : Expr} {f fa fb fc fo : SS → Mem → Rs Dt} {fs : SS → Mem → Rs (List Dt)} {tf tg : SS → Mem → Rs Bool} {pos p apos cpos : Pos} {es : List Expr} {x m : Str} {k j n cn : Nat} {dfl : List PyData} {F : List Dt → Mem → Rs Dt}

/-! ### methods -/
def objOf (M : Mem) : Dt → Option (Nat × List (Str × Dt))
  | .cell q i => (match M.at_ q i with
    | some (.obj c fs) => some (c, fs)
    | _ => none)
  | _ => none
theorem objOf_rd {K : PySem.W.Frag} {W : Wd} {M : Mem} {H : Hp} {v : V} {x : Dt} {c : Nat} {fs : List (Str × Dt)} (co : Conc K cA W M H) (r : Rv K W v x) (h : objOf M x = some (c, fs)) : ∃ a dx vs, v = .ref a ∧ H a = some (.ins (cA c) dx vs) ∧ RvF K W vs fs := by
  cases x with
  | p d => cases h
  | cell q i =>
    obtain ⟨a, rfl, e⟩ := r
    simp only [objOf] at h
    split at h
    · rename_i c' fs' m
      cases h
      obtain ⟨g, dx, vs, hv, hr⟩ := co.ok q i a _ e m trivial
      exact ⟨a, dx, vs, rfl, hv, hr⟩
    · cases h
def aMeth (cn : Nat) (m : Str) (F : List Dt → Mem → Rs Dt) (dfl : List PyData) (fo : SS → Mem → Rs Dt) (fs : SS → Mem → Rs (List Dt)) : SS → Mem → Rs Dt := fun s M => (fo s M).bind fun x M1 => match objOf M1 x with
  | some (c, ff) => if c = cn ∧ ff.lookup m = none then (fs s M1).bind fun xs M2 => F (x :: xs ++ dfl.map Dt.p) M2 else .st
  | none => .st
def tMethG (C : Addr) (m : Str) (sp : Sp) (dvs : List V) (E : L2.St → XK) (ta : TE) (t : TA) : TE := fun σ H Q => ta σ H fun x H1 => ∃ a dx fs, x = .ref a ∧ H1 a = some (.ins C dx fs) ∧ fs.lookup m = none ∧ t σ H1 fun vs H2 => sp (x :: vs ++ dvs) H2 Q (E σ)
theorem ae_meth {pl : Sem Bool} (c : CalM X.prog X.w X.K X.mg X.base cA cn m k n dfl F) (ga : X.A.guards = some []) (hr : Room j X.A) (hk : k ≤ j) (tk : TkX X Wx) (ho : AE X cA Wx o fo) (ha : AA X cA Wx (e :: es) fs) (hn : ∀ s M xs M1, fs s M = .ok xs M1 → xs.length + 1 + dfl.length = n)
    (hst : starEach (e :: es) X.env = (false, eval e X.env) :: starEach es X.env := by rfl) (hpl : (backTo pos (starEach es X.env)).any (·.1) = false := by rfl)
    (ht : eval (.Call (.Attribute o m apos) (e :: es) [] pos) X.env = (do
      let ov ← eval o X.env
      standAt apos.atName
      let (f, first) ← holding [ov] (getMethod ov m pl)
      callWith pos f first (backTo pos (starEach (e :: es) X.env)) (backToKw pos (keywordEach [] X.env))) := by rfl) : AE X cA Wx (.Call (.Attribute o m apos) (e :: es) [] pos) (aMeth cn m F dfl fo fs) := by
  obtain ⟨f, fd, ps, dvs, ds, G, hc, hm, hb, hd, rd⟩ := c
  obtain ⟨to, po, ho⟩ := ho
  obtain ⟨ta, pa, ha⟩ := ha
  refine ⟨tMethG (cA cn) m (spF X.K cA n F) dvs (fun σ c d H => Wx c d σ H) to ta, ⟨fun pins s σ H Q I h => ?_⟩, fun W sv s M H Q so co h => ?_⟩
  · refine PySem.W.methodCall_KW (pl := pl) (thn (po.run pins s σ H _ I h) ?_) ht
    rintro u s1 ⟨y, H1, I1, rx, a, dx, fs, rfl, ea, l, q⟩
    obtain rfl : u = Value.ref a := rx
    refine getmeth_ok I1 ea hc hm l (PySem.W.callWith_K (first := [.ref a]) (h₀ := X.base) I.ok.mod.kin hm.kp (thn (pa.run pos pins s1 σ H1 _ I1 q) ?_) hst hpl)
    rintro us s2 ⟨vs, H2, I2, r, q2⟩
    exact ⟨I2.kIn, run_fnG (us := .ref a :: us) (vs := .ref a :: vs) G ga (hr.mono hk) hb hd (tk σ) I2 (.cons rfl r) q2⟩
  · refine ho W sv s M H _ so co (PostG.bind h fun y M1 W1 v H1 _ l1 c1 r1 h1 => ?_)
    split at h1
    · rename_i c' ff e1
      by_cases z : c' = cn ∧ ff.lookup m = none
      · rw [if_pos z] at h1
        obtain ⟨a1, dx, vs, rfl, hv, hrf⟩ := objOf_rd c1 r1 e1
        refine ⟨a1, dx, vs, rfl, by rw [← z.1]; exact hv, hrf.lookup_none z.2, ?_⟩
        refine ha W1 sv s M1 H1 _ (so.mono l1) c1 (PostG.bind h1 fun xs M2 W2 ws H2 q l2 c2 r2 h2 => ?_)
        exact ⟨W2, M2, y :: xs ++ dfl.map Dt.p, by rw [List.length_append, List.length_map, List.length_cons]; exact hn s M1 xs M2 q, c2, RvAll.append (.cons (r1.mono l2) r2) (rvAll_p (rd _)), h2⟩
      · rw [if_neg z] at h1
        exact h1.elim
    · exact h1.elim
theorem ae_meth0 {pl : Sem Bool} (c : CalM X.prog X.w X.K X.mg X.base cA cn m k n dfl F) (ga : X.A.guards = some []) (hr : Room j X.A) (hk : k ≤ j) (tk : TkX X Wx) (ho : AE X cA Wx o fo) (hn : 1 + dfl.length = n)
    (ht : eval (.Call (.Attribute o m apos) [] [] pos) X.env = (do
      let ov ← eval o X.env
      standAt apos.atName
      let (f, first) ← holding [ov] (getMethod ov m pl)
      callWith pos f first (backTo pos (starEach [] X.env)) (backToKw pos (keywordEach [] X.env))) := by rfl) : AE X cA Wx (.Call (.Attribute o m apos) [] [] pos) (aMeth cn m F dfl fo aNil) := by
  obtain ⟨f, fd, ps, dvs, ds, G, hc, hm, hb, hd, rd⟩ := c
  obtain ⟨to, po, ho⟩ := ho
  refine ⟨tMethG (cA cn) m (spF X.K cA n F) dvs (fun σ c d H => Wx c d σ H) to tNil, ⟨fun pins s σ H Q I h => ?_⟩, fun W sv s M H Q so co h => ?_⟩
  · refine PySem.W.methodCall_KW (pl := pl) (thn (po.run pins s σ H _ I h) ?_) ht
    rintro u s1 ⟨y, H1, I1, rx, a, dx, fs, rfl, ea, l, q⟩
    obtain rfl : u = Value.ref a := rx
    exact getmeth_ok I1 ea hc hm l (PySem.W.callWith_K0 (first := [.ref a]) I1.kIn hm.kp (run_fnG (us := [.ref a]) (vs := [.ref a]) G ga (hr.mono hk) hb hd (tk σ) I1 (.cons rfl .nil) q))
  · refine ho W sv s M H _ so co (PostG.bind h fun y M1 W1 v H1 _ l1 c1 r1 h1 => ?_)
    split at h1
    · rename_i c' ff e1
      by_cases z : c' = cn ∧ ff.lookup m = none
      · rw [if_pos z] at h1
        obtain ⟨a1, dx, vs, rfl, hv, hrf⟩ := objOf_rd c1 r1 e1
        exact ⟨a1, dx, vs, rfl, by rw [← z.1]; exact hv, hrf.lookup_none z.2, W1, M1, y :: [] ++ dfl.map Dt.p, by rw [List.length_append, List.length_map]; exact hn, c1, RvAll.append (.cons r1 .nil) (rvAll_p (rd _)), h1⟩
      · rw [if_neg z] at h1
        exact h1.elim
    · exact h1.elim
/-- by the class of the object: the first that it is -/
theorem AE.or {g h : SS → Mem → Rs Dt} (p : SS → Mem → Bool) (h1 : AE X cA Wx e g) (h2 : AE X cA Wx e h) : AE X cA Wx e (fun s M => if p s M = true then g s M else h s M) := by
  obtain ⟨t1, p1, h1⟩ := h1
  obtain ⟨t2, p2, h2⟩ := h2
  refine ⟨fun σ H Q => t1 σ H Q ∨ t2 σ H Q, ⟨fun pins s σ H Q I h => h.elim (p1.run pins s σ H Q I) (p2.run pins s σ H Q I)⟩, fun W sv s M H Q so co hp => ?_⟩
  by_cases z : p s M = true
  · rw [if_pos z] at hp
    exact .inl (h1 W sv s M H Q so co hp)
  · rw [if_neg z] at hp
    exact .inr (h2 W sv s M H Q so co hp)

/-! ### instances -/
theorem run_makeG {pins : List (Addr × Obj)} {σ : L2.St} {H : Hp} {s : Shared} {Q : VK} {E : XK} {us ds : List Value} {vs dvs : List V} {C f : Addr} {fd : FuncData} {ps : List Str} {sp : Sp} (M : Mk X.K C f) (F : FnG X.prog X.w X.K X.mg X.base k f fd ps sp) (ga : X.A.guards = some []) (hr : Room (k + 1) X.A)
    (hb : Binds X.K fd ps ds) (hd : Vals dvs ds) (hx : PassesAt (L2.CX X.prog X.w) X σ E) (I : Inv X pins σ H s) (r : Vals vs us)
    (h : ∀ x dx, H x = none → H dx = none → dx ≠ x → sp (.ref x :: vs ++ dvs) (upd (upd H dx (.own x)) x (.ins C dx [])) (fun v H2 => v = .non ∧ Q (.ref x) H2) E) :
    wpAny (model X.prog X.w) X.A (call (.ref C) us) (EP X pins σ Q) X.xe s := by
  have hq := h (s.heap.objs.size + 1) s.heap.objs.size (I.hok.fresh (Nat.le_succ _)) (I.hok.fresh (Nat.le_refl _)) (Nat.ne_of_lt (Nat.lt_succ_self _))
  have J := Inv.made (C := C) I
  have ra : Vals (V.ref (s.heap.objs.size + 1) :: vs ++ dvs) (Value.ref (s.heap.objs.size + 1) :: us ++ ds) := Vals.append (.cons rfl r) hd
  have hl : (Value.ref (s.heap.objs.size + 1) :: us ++ ds).length = ps.length := ra.length.symm.trans (F.len _ _ _ _ hq)
  have gm : (X.A.under (.builtin "type.__call__" ⟨.ref C :: us, []⟩)).guards = some [] := by
    show pushGuards (Code.guards (.builtin "type.__call__" ⟨.ref C :: us, []⟩)) X.A.guards = some []
    rw [ga]
    rfl
  refine wpAny_call (make_map (f := f) I.kIn M.makes M.init (beq_iff_eq.mp M.fn) (codeAny_mono (F.run _ gm X.stack _ _ ⟨Value.ref (s.heap.objs.size + 1) :: us, []⟩ _ _ _ E (hr.make C us []) (J.env0.make C us []) (hb _ (_ :: us) J.kIn hl) ra hq) ?_))
  intro r s' hq'
  cases r with
  | error e => exact hx pins _ _ e s' J hq'
  | ok fl =>
    cases fl
    case ret u =>
      obtain ⟨v, H', I3, rv, rfl, q3⟩ := J.after hq'
      exact ⟨rv, ⟨V.ref (s.heap.objs.size + 1), H', I3, rfl, q3⟩⟩
    all_goals exact hq'.elim
def aMake (cn : Nat) (F : List Dt → Mem → Rs Dt) (dfl : List PyData) (fs : SS → Mem → Rs (List Dt)) : SS → Mem → Rs Dt := fun s M => (fs s M).bind fun xs M1 => (F (.cell false M1.o.length :: xs ++ dfl.map Dt.p) (M1.add false (.obj cn []))).bind fun r M2 => if isNone r = true then .ok (.cell false M1.o.length) M2 else .st
theorem Conc.addObj {K : PySem.W.Frag} {W : Wd} {M : Mem} {H : Hp} {y dx : Addr} {C : Nat} (c : Conc K cA W M H) (hy : H y = none) (hd : H dx = none) (hne : dx ≠ y) : Conc K cA (W.add false y) (M.add false (.obj C [])) (upd (upd H dx (.own y)) y (.ins (cA C) dx [])) := by
  refine c.add hy (fun b hb hb2 => ?_) (by rw [upd_same]; intro z; cases z) fun _ => ⟨dx, [], upd_same, .nil⟩
  rw [upd_ne hb, upd_ne]
  rintro rfl
  exact hb2 hd
theorem ae_make (c : CalK X.prog X.w X.K X.mg X.base cA x cn k n dfl F) (ga : X.A.guards = some []) (hr : Room j X.A) (hk : k + 1 ≤ j) (hg : Gl X x) (tk : TkX X Wx) (ha : AA X cA Wx (e :: es) fs) (hn : ∀ s M xs M1, fs s M = .ok xs M1 → xs.length + 1 + dfl.length = n) (hdb : (x == ("__debug__" : Str)) = false := by decide)
    (he : starEach (e :: es) X.env = (false, eval e X.env) :: starEach es X.env := by rfl) (hpl : (backTo pos (starEach es X.env)).any (·.1) = false := by rfl) : AE X cA Wx (.Call (.Name x p) (e :: es) [] pos) (aMake cn F dfl fs) := by
  obtain ⟨f, fd, ps, dvs, ds, G, hm, hmg, hb, hd, rd⟩ := c
  obtain ⟨ta, pa, ha⟩ := ha
  refine ⟨fun σ H Q => ta σ H fun vs H1 => ∀ y dx, H1 y = none → H1 dx = none → dx ≠ y → spF X.K cA n F (.ref y :: vs ++ dvs) (upd (upd H1 dx (.own y)) y (.ins (cA cn) dx [])) (fun v H2 => v = .non ∧ Q (.ref y) H2) (fun c d H => Wx c d σ H), ⟨fun pins s σ H Q I h => ?_⟩, fun W sv s M H Q so co h => ?_⟩
  · refine wpAny_Call_Name_kw (ld_glob I hg hmg ?_ hdb)
    refine PySem.W.callWith_K (h₀ := X.base) I.ok.mod.kin hm.kp (thn (pa.run pos pins s σ H _ I h) ?_) he hpl
    rintro us s1 ⟨vs, H1, I1, r, q⟩
    exact ⟨I1.kIn, run_makeG hm G ga (hr.mono hk) hb hd (tk σ) I1 r q⟩
  · refine ha W sv s M H _ so co (PostG.bind h fun xs M1 W1 vs H1 q l1 c1 r1 h1 => ?_)
    intro y dx hy hdx hne
    have c2 := c1.addObj (C := cn) hy hdx hne
    have hl : W1.o.length = M1.o.length := c1.lo
    have rself : Rv X.K (W1.add false y) (.ref y) (.cell false M1.o.length) := ⟨y, rfl, by show (W1.o ++ [y])[M1.o.length]? = some y; rw [← hl]; simp⟩
    refine ⟨W1.add false y, _, .cell false M1.o.length :: xs ++ dfl.map Dt.p, by rw [List.length_append, List.length_map, List.length_cons]; exact hn s M xs M1 q, c2, RvAll.append (.cons rself (r1.mono Wd.leAdd)) (rvAll_p (rd _)), ?_⟩
    cases z : F (.cell false M1.o.length :: xs ++ dfl.map Dt.p) (M1.add false (.obj cn [])) with
    | ok d M3 =>
      rw [z] at h1
      intro W3 v H3 l3 c3 r3
      simp only [Rs.bind] at h1
      by_cases y0 : isNone d = true
      · rw [if_pos y0] at h1
        exact ⟨isNone_eq r3 y0, h1 W3 _ H3 (Wd.leAdd.trans l3) c3 (rself.mono l3)⟩
      · rw [if_neg y0] at h1
        exact h1.elim
    | ex c M3 =>
      rw [z] at h1
      exact PostG.mono Wd.leAdd h1
    | st =>
      rw [z] at h1
      exact h1
end
end DL

set_option Elab.async false
set_option linter.all false
set_option maxRecDepth 100000
/-! DL9: properties, repr, isinstance, all, chains, stores by an operator, dicts by names, raise. -/
namespace DL
open PySem PySem.Spec PyProof.Rows L2

section
variable {X : Cx} {cA : Nat → Addr} {Wx : WX} {e a b c o : Expr} {f fa fb fc fo fi : SS → Mem → Rs Dt} {fs : SS → Mem → Rs (List Dt)} {tf tg : SS → Mem → Rs Bool} {pos pos' p apos cpos : Pos} {es : List Expr} {x m : Str} {k j n cn : Nat} {dfl : List PyData} {F : List Dt → Mem → Rs Dt}

/-! ### a property read -/
def aProp (cn : Nat) (F : List Dt → Mem → Rs Dt) (fo : SS → Mem → Rs Dt) : SS → Mem → Rs Dt := fun s M => (fo s M).bind fun x M1 => match objOf M1 x with
  | some (c, _) => if c = cn then (match F [x] M1 with
    | .ok d M2 => .ok d M2
    | _ => .st) else .st
  | none => .st
theorem getprop_g {pins : List (Addr × Obj)} {σ : L2.St} {H : Hp} {s : Shared} {Q : VK} {C pr g a dx : Addr} {vs : List (Str × V)} {fd : FuncData} {ps : List Str} {sp : Sp} {b : Bool} {E' : Value → Shared → Prop} (I : Inv X pins σ H s) (ea : H a = some (.ins C dx vs)) (c : Cls X.K C) (hp : PropOf X.K C m pr g)
    (F : FnG X.prog X.w X.K X.mg X.base k g fd ps sp) (ga : X.A.guards = some []) (hr : Room (k + 1) X.A) (hb : Binds X.K fd ps []) (h : sp [.ref a] H Q E0) : wpAny (model X.prog X.w) X.A (getAttr (.ref a) m b) (EP X pins σ Q) E' s := by
  obtain ⟨mA, O, _, _, _, _⟩ := ins_get I.hok ea
  obtain ⟨od, J, _⟩ := O.look
  obtain ⟨rest, hrec⟩ := hp.rec_
  have I1 := I.tok (s.toks + 1)
  have hc : (PySem.W.clsIn X.K C).isSome = true := by
    obtain ⟨cd, hc, _⟩ := PySem.W.any_some c.hd
    rw [hc]
    rfl
  have hl : ([Value.ref a] ++ []).length = ps.length := (F.len _ _ _ _ h)
  refine PySem.W.get_bind I.kIn J (PySem.W.plainGet_of (c.get m)).1 (PySem.W.findObj_data hc hp.at_ hp.get hp.tak) (PySem.W.plainGet_of (c.get m)).2 (wpAny_call (PySem.W.prop_get (s := { s with toks := s.toks + 1 }) I.kIn hrec (codeAny_mono
    (F.run X.A.in1 ga X.stack _ H ⟨[.ref a], []⟩ [.ref a] [.ref a] Q E0 hr.in1 I1.env0.in1 (hb _ [.ref a] I1.kIn hl) (.cons rfl .nil) h) ?_)))
  intro r s' hq
  cases r with
  | error er => exact False.elim (passL (X := X.nox) pins σ H { s with toks := s.toks + 1 } er s' (I1.wish _) hq)
  | ok fl =>
    cases fl
    case ret u =>
      obtain ⟨v, H', I3, rv, q3⟩ := I1.after hq
      show wpAny _ _ (handedOut u) _ _ _
      rw [PySem.W.handedOut_of (handed_of rv)]
      exact wpAny_pure ⟨v, H', I3, rv, q3⟩
    all_goals exact hq.elim
theorem ae_prop (cp : CalP X.prog X.w X.K X.mg X.base cA cn m k F) (ga : X.A.guards = some []) (hr : Room j X.A) (hk : k + 1 ≤ j) (ho : AE X cA Wx e fo) (hab : attributeBase e m X.env (eval e X.env) = eval e X.env := by rfl) : AE X cA Wx (.Attribute e m pos) (aProp cn F fo) := by
  obtain ⟨g, pr, fd, ps, G, hc, hp, hb⟩ := cp
  obtain ⟨to, po, ho⟩ := ho
  refine ⟨fun σ H Q => to σ H fun x H1 => ∃ a dx fs, x = .ref a ∧ H1 a = some (.ins (cA cn) dx fs) ∧ spF X.K cA 1 F [.ref a] H1 Q E0, ⟨fun pins s σ H Q I h => ?_⟩, fun W sv s M H Q so co h => ?_⟩
  · refine attr_of hab (thn (po.run pins s σ H _ I h) ?_)
    rintro u s1 ⟨y, H1, I1, rx, a, dx, fs, rfl, ea, q⟩
    obtain rfl : u = Value.ref a := rx
    exact getprop_g I1 ea hc hp G ga (hr.mono hk) hb q
  · refine ho W sv s M H _ so co (PostG.bind h fun y M1 W1 v H1 _ l1 c1 r1 h1 => ?_)
    split at h1
    · rename_i c' ff e1
      by_cases z : c' = cn
      · rw [if_pos z] at h1
        obtain ⟨a1, dx, vs, rfl, hv, hrf⟩ := objOf_rd c1 r1 e1
        refine ⟨a1, dx, vs, rfl, by rw [← z]; exact hv, W1, M1, [y], rfl, c1, .cons r1 .nil, ?_⟩
        split at h1
        · rename_i d M2 e2
          rw [e2]
          exact h1
        · exact h1.elim
      · rw [if_neg z] at h1
        exact h1.elim
    · exact h1.elim

/-! ### repr -/
def reprD : List Dt → Mem → Rs Dt
  | [x], M => (match dat M x with
    | some d => if SeqAt.shaped d = true ∧ d.showable = true ∧ d.shown.length ≤ sizeLine then .ok (.p (.str d.shown)) M else .st
    | none => .st)
  | _, _ => .st
theorem call_reprD (ga : X.A.guards = some []) (hu : X.A.units + 80 < cLine) : CallR X (.builtin "repr") (fun xs H Q => ∃ v d, xs = [v] ∧ Dp X.K H v d ∧ SeqAt.shaped d = true ∧ d.showable = true ∧ d.shown.length ≤ sizeLine ∧ Q (.str d.shown) H) := by
  intro pins s σ H xs us Q I r h
  obtain ⟨v, d, rfl, hd, z, zs, zl, q⟩ := h
  obtain ⟨u, rfl, ru⟩ := vals1 r
  cases hd with
  | non =>
    obtain rfl : u = Value.none := ru
    exact PySem.P.repr_of_none ⟨.str _, H, I.tok _, ⟨_, rfl⟩, by simpa [PyData.shown] using q⟩
  | bl b =>
    obtain rfl : u = Value.bool b := ru
    exact PySem.P.repr_of_bool ⟨.str _, H, I.tok _, ⟨_, rfl⟩, by simpa [PyData.shown] using q⟩
  | int i =>
    obtain ⟨t, rfl⟩ := ru
    exact PySem.P.repr_of_int (by simpa [PyData.showable] using zs) ⟨.str _, H, I.tok _, ⟨_, rfl⟩, by simpa [PyData.shown] using q⟩
  | str y =>
    obtain ⟨t, rfl⟩ := ru
    exact PySem.P.repr_of_str ⟨.str _, H, I.tok _, ⟨_, rfl⟩, by simpa [PyData.shown] using q⟩ (by simpa [PyData.shown] using zl)
  | lst hs ha =>
    rename_i a xs ds
    have hd : Dp X.K H (.ref a) (.list ds) := .lst hs ha
    obtain ⟨as, hr⟩ := Dp.reads I _ _ u hd ru
    obtain rfl : u = Value.ref a := ru
    have h64 := SeqAt.depth_of_shaped z
    exact repr_of_reads' hr zs (PyData.noDict_hsm (PyData.hasDict_of_canLay _ (SeqAt.canLay_of_shaped z))) ga (by omega) (fun _ _ e => e) (fun h' u tk hk => ⟨.str _, H, I.kept (t' := tk) hk, ⟨u, rfl⟩, q⟩) zl
  | tup hs ha =>
    rename_i a xs ds
    have hd : Dp X.K H (.ref a) (.tuple ds) := .tup hs ha
    obtain ⟨as, hr⟩ := Dp.reads I _ _ u hd ru
    obtain rfl : u = Value.ref a := ru
    have h64 := SeqAt.depth_of_shaped z
    exact repr_of_reads' hr zs (PyData.noDict_hsm (PyData.hasDict_of_canLay _ (SeqAt.canLay_of_shaped z))) ga (by omega) (fun _ _ e => e) (fun h' u tk hk => ⟨.str _, H, I.kept (t' := tk) hk, ⟨u, rfl⟩, q⟩) zl
theorem cd_repr (ga : X.A.guards = some []) (hu : X.A.units + 80 < cLine) : CallD X cA (.builtin "repr") reprD := by
  refine ⟨_, call_reprD ga hu, fun W M H vs ds Q E co r hp => ?_⟩
  unfold reprD at hp
  split at hp
  · obtain ⟨v, rfl, rx⟩ := rv1 r
    split at hp
    · rename_i d e1
      by_cases z : SeqAt.shaped d = true ∧ d.showable = true ∧ d.shown.length ≤ sizeLine
      · rw [if_pos z] at hp
        exact ⟨v, d, rfl, dat_dp co rx e1 z.1, z.1, z.2.1, z.2.2, hp W _ H (Le.refl _) co (Rp.str _)⟩
      · rw [if_neg z] at hp
        exact hp.elim
    · exact hp.elim
  · exact hp.elim

/-! ### isinstance -/
inductive TyN where
  | non | bl | int | str | lst | tup | dct
  deriving DecidableEq
def TyN.name : TyN → String
  | .non => "NoneType"
  | .bl => "bool"
  | .int => "int"
  | .str => "str"
  | .lst => "list"
  | .tup => "tuple"
  | .dct => "dict"
def isTy : TyN → TyN → Bool
  | .bl, .int => true
  | a, b => decide (a = b)
theorem kit_isTy : ∀ a b : TyN, kitB a.name b.name = some (isTy a b) := by
  intro a b
  cases a <;> cases b <;> decide +kernel
def tyOfP : PyData → TyN
  | .none => .non
  | .bool _ => .bl
  | .int _ => .int
  | .str _ => .str
  | .list _ => .lst
  | .tuple _ => .tup
  | .dict _ => .dct
def tyOfD (M : Mem) : Dt → Option TyN
  | .p d => some (tyOfP d)
  | .cell b i => match M.at_ b i with
    | some (.lst _) => some .lst
    | some (.lsd _) => some .lst
    | some (.dK _) => some .dct
    | some (.dT _) => some .dct
    | _ => none
theorem tyOfD_x {K : PySem.W.Frag} {W : Wd} {M : Mem} {H : Hp} {v : V} {x : Dt} {t : TyN} (co : Conc K cA W M H) (r : Rv K W v x) (h : tyOfD M x = some t) : TyX K H v (.type t.name) := by
  cases x with
  | p d =>
    simp only [tyOfD] at h
    cases h
    cases r with
    | non => exact .base .non
    | bl b => exact .base (.bl b)
    | int i => exact .base (.int i)
    | str y => exact .base (.str y)
    | lst hd _ =>
      rcases hd with hd | ⟨oo, hd⟩
      · exact .base (.lst (co.sub _ _ hd))
      · exact .base (.frz (co.sub _ _ hd))
    | tup hd _ =>
      rcases hd with (hd | ⟨oo, hd⟩) | ⟨oo, its, n, hk, hc, _⟩
      · exact .base (.tup (co.sub _ _ hd))
      · exact .fTuple (co.sub _ _ hd)
      · exact .kTuple hk hc
    | dct hd _ => exact .base (.dK (co.sub _ _ hd))
  | cell b i =>
    obtain ⟨a, rfl, e⟩ := r
    simp only [tyOfD] at h
    split at h
    · rename_i m
      cases h
      obtain ⟨_, vs, hv, _⟩ := co.ok b i a _ e m trivial
      exact .base (.lst hv)
    · rename_i m
      cases h
      obtain ⟨_, vs, hv, _⟩ := co.ok b i a _ e m trivial
      exact .base (.lst hv)
    · rename_i m
      cases h
      obtain ⟨_, vs, hv, _⟩ := co.ok b i a _ e m trivial
      exact .base (.dK hv)
    · rename_i m
      cases h
      obtain ⟨_, vs, hv, _⟩ := co.ok b i a _ e m trivial
      exact .base (.dT hv)
    · cases h
def aIsi (T : TyN) (f : SS → Mem → Rs Dt) : SS → Mem → Rs Dt := fun s M => (f s M).bind fun x M1 => match tyOfD M1 x with
  | some t => .ok (.p (.bool (isTy t T))) M1
  | none => .st
theorem ae_isi {y : Str} {p2 : Pos} (T : TyN) (he : AE X cA Wx e f) (hg : Gl X "isinstance") (hm : X.mg "isinstance" = none) (hgy : Gl X y) (hmy : X.mg y = none) (hv : bootBuiltins y = some (.type T.name)) (hn : y ≠ "__name__" := by decide) (hd : (y == ("__debug__" : Str)) = false := by decide)
    (hs : starEach [e, .Name y p2] X.env = (false, eval e X.env) :: starEach [.Name y p2] X.env := by rfl) (hs2 : starEach [.Name y p2] X.env = (false, eval (.Name y p2) X.env) :: starEach [] X.env := by rfl) (hpl : (backTo pos (starEach [.Name y p2] X.env)).any (·.1) = false := by rfl) :
    AE X cA Wx (.Call (.Name "isinstance" p) [e, .Name y p2] [] pos) (aIsi T f) := by
  obtain ⟨te, pe, he⟩ := he
  have pty : PE X (.Name y p2) (tC (.ty T.name)) := pe_bltn hgy hmy hv rfl hn hd
  refine ⟨_, pe_callB call_isi hg hm (by decide +kernel) (pa_cons pe (pa_cons pty pa_nil hs2) hs) (by decide) (by decide) hs hpl, fun W sv s M H Q so co h => ?_⟩
  refine he W sv s M H _ so co (PostG.bind h fun x M1 W1 v H1 _ l1 c1 r1 h1 => ?_)
  split at h1
  · rename_i t e1
    exact ⟨v, .ty T.name, .type t.name, .type T.name, isTy t T, rfl, .ty _, tyOfD_x c1 r1 e1, kit_ty (kit_isTy t T), h1 W1 _ H1 (Le.refl _) c1 (Rp.bl _)⟩
  · exact h1.elim

/-! ### all, any -/
def boolsOf : List PyData → Option (List Bool)
  | [] => some []
  | .bool s :: r => (boolsOf r).map (s :: ·)
  | _ :: _ => none
theorem boolsOf_rp {K : PySem.W.Frag} {G : Hp} : ∀ {vs : List V} {ds : List PyData} {ss : List Bool}, RpAll K G vs ds → boolsOf ds = some ss → vs = ss.map V.bl
  | _, _, ss, .nil, h => by
    cases h
    rfl
  | _, _, ss, .cons (d := d) (ds := ds) h r, e => by
    cases d with
    | bool s =>
      simp only [boolsOf] at e
      cases q : boolsOf ds with
      | none =>
        rw [q] at e
        cases e
      | some t =>
        rw [q] at e
        cases e
        cases h
        rw [boolsOf_rp r q]
        rfl
    | _ => cases e
def allD : List Dt → Mem → Rs Dt
  | [x], M => (match lstOf M x with
    | some ds => (match boolsOf ds with
      | some bs => .ok (.p (.bool (bs.all id))) M
      | none => .st)
    | none => .st)
  | _, _ => .st
theorem cd_all (hc : X.calm = true) : CallD X cA (.builtin "all") allD := by
  refine ⟨_, cr_all hc, fun W M H vs ds Q E co r hp => ?_⟩
  unfold allD at hp
  split at hp
  · obtain ⟨v, rfl, rx⟩ := rv1 r
    split at hp
    · rename_i ds e1
      split at hp
      · rename_i bs e2
        obtain ⟨a1, vs, rfl, k1, r1⟩ := lstOf_rd co rx e1
        have := boolsOf_rp r1 e2
        subst this
        exact ⟨a1, bs, rfl, sqL_rd k1, hp W _ H (Le.refl _) co (Rp.bl _)⟩
      · exact hp.elim
    · exact hp.elim
  · exact hp.elim

/-! ### a < b < c -/
def aChain (g h : Dt → Dt → Mem → Rs Dt) (fa fb fc : SS → Mem → Rs Dt) : SS → Mem → Rs Dt := fun s M => (fa s M).bind fun x M1 => (fb s M1).bind fun y M2 => (g x y M2).bind fun z M3 => match boolOf z with
  | some true => (fc s M3).bind fun w M4 => h y w M4
  | some false => .ok (.p (.bool false)) M3
  | none => .st
theorem chain_core {g h : Dt → Dt → Mem → Rs Dt} {r r' : R2} {ta tb tc : TE} (hg : ∀ (W : Wd) (M : Mem) (H : Hp) (x y : V) (dx dy : Dt) (Q : VK) (E : XK), Conc X.K cA W M H → Rv X.K W x dx → Rv X.K W y dy → PostG X.K cA (Rv X.K) (g dx dy M) W Q E → r x y H Q)
    (hh : ∀ (W : Wd) (M : Mem) (H : Hp) (x y : V) (dx dy : Dt) (Q : VK) (E : XK), Conc X.K cA W M H → Rv X.K W x dx → Rv X.K W y dy → PostG X.K cA (Rv X.K) (h dx dy M) W Q E → r' x y H Q)
    (ha : ∀ (W : Wd) (sv : L2.St) (s : SS) (M : Mem) (H : Hp) (Q : VK), SlOk X.K W sv s → Conc X.K cA W M H → PostG X.K cA (Rv X.K) (fa s M) W Q (fun c d H' => Wx c d sv H') → ta sv H Q)
    (hb : ∀ (W : Wd) (sv : L2.St) (s : SS) (M : Mem) (H : Hp) (Q : VK), SlOk X.K W sv s → Conc X.K cA W M H → PostG X.K cA (Rv X.K) (fb s M) W Q (fun c d H' => Wx c d sv H') → tb sv H Q)
    (hc : ∀ (W : Wd) (sv : L2.St) (s : SS) (M : Mem) (H : Hp) (Q : VK), SlOk X.K W sv s → Conc X.K cA W M H → PostG X.K cA (Rv X.K) (fc s M) W Q (fun c d H' => Wx c d sv H') → tc sv H Q)
    (W : Wd) (sv : L2.St) (s : SS) (M : Mem) (H : Hp) (Q : VK) (so : SlOk X.K W sv s) (co : Conc X.K cA W M H) (hp : PostG X.K cA (Rv X.K) (aChain g h fa fb fc s M) W Q (fun c d H' => Wx c d sv H')) : tChain r r' ta tb tc sv H Q := by
  refine ha W sv s M H _ so co (PostG.bind hp fun dx M1 W1 x H1 _ l1 c1 rx h1 => ?_)
  refine hb W1 sv s M1 H1 _ (so.mono l1) c1 (PostG.bind h1 fun dy M2 W2 y H2 _ l2 c2 ry h2 => ?_)
  refine hg W2 M2 H2 x y dx dy _ _ c2 (rx.mono l2) ry (PostG.bind h2 fun dz M3 W3 z H3 _ l3 c3 rz h3 => ?_)
  split at h3
  · rename_i e1
    exact ⟨true, boolOf_rd rz e1, hc W3 sv s M3 H3 _ (so.mono ((l1.trans l2).trans l3)) c3 (PostG.bind h3 fun dw M4 W4 w H4 _ l4 c4 rw h4 => hh W4 M4 H4 y w dy dw Q _ c4 (ry.mono (l3.trans l4)) rw h4)⟩
  · rename_i e1
    exact ⟨false, boolOf_rd rz e1, h3 W3 _ H3 (Le.refl _) c3 (Rp.bl false)⟩
  · exact h3.elim
theorem ae_chain {op op' : CmpOp} {g h : Dt → Dt → Mem → Rs Dt} (hg : OpD X cA (compareOp op) g) (hh : OpD X cA (compareOp op') h) (ha : AE X cA Wx a fa) (hb : AE X cA Wx b fb) (hc : AE X cA Wx c fc) (hm : lastMarks [op, op'] [b, c] = false := by with_unfolding_all rfl) :
    AE X cA Wx (.Compare a [op, op'] [b, c] pos) (aChain g h fa fb fc) := by
  obtain ⟨r, hr, hg⟩ := hg
  obtain ⟨r', hr', hh⟩ := hh
  obtain ⟨ta, pa, ha⟩ := ha
  obtain ⟨tb, pb, hb⟩ := hb
  obtain ⟨tc, pc, hc⟩ := hc
  exact ⟨_, pe_chain hr hr' pa pb pc hm, chain_core hg hh ha hb hc⟩
theorem at_chain {op op' : CmpOp} {g h : Dt → Dt → Mem → Rs Dt} (hg : OpD X cA (compareOp op) g) (hh : OpD X cA (compareOp op') h) (ha : AE X cA Wx a fa) (hb : AE X cA Wx b fb) (hc : AE X cA Wx c fc) (hm : lastMarks [op, op'] [b, c] = false := by with_unfolding_all rfl) :
    AT X cA Wx (.Compare a [op, op'] [b, c] pos) (aB (aChain g h fa fb fc)) := by
  obtain ⟨r, hr, hg⟩ := hg
  obtain ⟨r', hr', hh⟩ := hh
  obtain ⟨ta, pa, ha⟩ := ha
  obtain ⟨tb, pb, hb⟩ := hb
  obtain ⟨tc, pc, hc⟩ := hc
  refine ⟨_, pt_chain hr hr' pa pb pc hm, fun W sv s M H Q so co h => ?_⟩
  refine chain_core hg hh ha hb hc W sv s M H _ so co (PostG.bind h fun d M1 W1 v H1 _ l1 c1 r h1 => ?_)
  split at h1
  · rename_i b e
    exact ⟨b, isB_rv r e, h1 W1 b H1 (Le.refl _) c1 rfl⟩
  · exact h1.elim

/-! ### x += e -/
def IpD (X : Cx) (cA : Nat → Addr) (op : Operator) (g : Dt → Dt → Mem → Rs Dt) : Prop :=
  ∃ r, PIp X op r ∧ ∀ (W : Wd) (M : Mem) (H : Hp) (x y : V) (dx dy : Dt) (Q : VK) (E : XK), Conc X.K cA W M H → Rv X.K W x dx → Rv X.K W y dy → PostG X.K cA (Rv X.K) (g dx dy M) W Q E → r x y H Q
def addI := int2 (fun _ _ => True) fun i j => .int (i + j)
theorem ip_addD : IpD X cA .Add addI := by
  refine ⟨_, ip_add, fun W M H x y dx dy Q E co rx ry hp => ?_⟩
  unfold addI int2 at hp
  split at hp
  · rename_i i j e1 e2
    rw [if_pos trivial] at hp
    exact ⟨i, j, intOf_rd rx e1, intOf_rd ry e2, hp W _ H (Le.refl W) co (.int _)⟩
  · exact hp.elim
theorem ip_subD : IpD X cA .Sub subD := by
  refine ⟨_, ip_sub, fun W M H x y dx dy Q E co rx ry hp => ?_⟩
  unfold subD int2 at hp
  split at hp
  · rename_i i j e1 e2
    rw [if_pos trivial] at hp
    exact ⟨i, j, intOf_rd rx e1, intOf_rd ry e2, hp W _ H (Le.refl W) co (.int _)⟩
  · exact hp.elim
def aAug (i : Nat) (g : Dt → Dt → Mem → Rs Dt) (f : SS → Mem → Rs Dt) : SS → Mem → Rs Fl := fun s M => match s[i]? with
  | some (some d) => (f s M).bind fun y M1 => (g d y M1).bind fun z M2 => .ok (.nx (s.set i (some z))) M2
  | _ => .st
theorem as_aug {op : Operator} {g : Dt → Dt → Mem → Rs Dt} {i : Nat} (hN : X.N.Nodup) (hi : X.N[i]? = some x) (hx : Loc X.env.scope x) (hg : IpD X cA op g) (he : AE X cA Wx e f)
    (hf : X.fn x = true ∨ X.env.scope.names.lookup x = some .local := by first | exact .inl rfl | exact .inr rfl | assumption) : AS X cA Wx (.AugAssign (.Name x pos') op e pos) (aAug i g f) := by
  obtain ⟨r, hr, hg⟩ := hg
  obtain ⟨te, pe, he⟩ := he
  refine ⟨_, ps_aug hN hi hx pe hr hf, fun W sv s M H D so co h => ?_⟩
  unfold aAug at h
  split at h
  · rename_i d e1
    obtain ⟨v, e2, rv⟩ := so.2 i d e1
    refine ⟨v, e2, he W sv s M H _ so co (PostS.bind h fun y M1 W1 yv H1 _ l1 c1 r1 h1 => ?_)⟩
    refine hg W1 M1 H1 v yv d y _ (fun c d H' => Wx c d sv H') c1 (rv.mono l1) r1 (PostS.bind h1 fun z M2 W2 zv H2 _ l2 c2 r2 h2 => ?_)
    exact h2 W2 _ H2 (Le.refl _) c2 ((so.mono (l1.trans l2)).set i r2)
  · exact h.elim

/-! ### dicts whose keys are ints and texts -/
def keyOf : Dt → Option Key
  | .p (.int i) => some (.inl i)
  | .p (.str s) => some (.inr s)
  | _ => none
theorem keyOf_rd {K : PySem.W.Frag} {W : Wd} {v : V} {x : Dt} {k : Key} (r : Rv K W v x) (h : keyOf x = some k) : v = kV k := by
  cases x with
  | p d =>
    cases d <;> simp only [keyOf] at h <;> cases h
    · cases r
      rfl
    · cases r
      rfl
  | cell b i => cases h
def valP {κ : Type} [DecidableEq κ] (kvs : List (κ × PyData)) (k : κ) : Option PyData := (kvs.find? fun kv => decide (kv.1 = k)).map (·.2)
def putP {κ : Type} [DecidableEq κ] (kvs : List (κ × PyData)) (k : κ) (v : PyData) : List (κ × PyData) :=
  if (kvs.any fun kv => decide (kv.1 = k)) = true then kvs.map (fun kv => if kv.1 = k then (kv.1, v) else kv) else kvs ++ [(k, v)]
theorem valP_pos {κ : Type} [DecidableEq κ] {p : κ × PyData} {r : List (κ × PyData)} {k : κ} (e : p.1 = k) : valP (p :: r) k = some p.2 := by simp [valP, List.find?_cons, e]
theorem valP_neg {κ : Type} [DecidableEq κ] {p : κ × PyData} {r : List (κ × PyData)} {k : κ} (e : ¬ p.1 = k) : valP (p :: r) k = valP r k := by simp [valP, List.find?_cons, e]
theorem val_rp {κ : Type} [DecidableEq κ] {F : (κ × V) → (κ × PyData) → Prop} {R : V → PyData → Prop} (hF : ∀ p q, F p q → p.1 = q.1 ∧ R p.2 q.2) (k : κ) : ∀ {vs : List (κ × V)} {ds : List (κ × PyData)}, Paired F vs ds →
    (valP ds k = none → valV vs k = none) ∧ ∀ d, valP ds k = some d → ∃ v, valV vs k = some v ∧ R v d
  | _, _, .nil => ⟨fun _ => rfl, fun d h => by cases h⟩
  | _, _, .cons (a := p) (b := q) h r => by
    obtain ⟨e, z⟩ := hF p q h
    obtain ⟨i1, i2⟩ := val_rp hF k r
    by_cases y : p.1 = k
    · have yq : q.1 = k := e.symm.trans y
      rw [valV_pos y, valP_pos yq]
      refine ⟨fun h => (by cases h), fun d h => ?_⟩
      cases h
      exact ⟨_, rfl, z⟩
    · have yq : ¬ q.1 = k := fun w => y (e.trans w)
      rw [valV_neg y, valP_neg yq]
      exact ⟨i1, i2⟩
theorem any_rp {κ : Type} [DecidableEq κ] {F : (κ × V) → (κ × PyData) → Prop} (hF : ∀ p q, F p q → p.1 = q.1) (k : κ) : ∀ {vs : List (κ × V)} {ds : List (κ × PyData)}, Paired F vs ds → (vs.any fun kv => decide (kv.1 = k)) = ds.any fun kv => decide (kv.1 = k)
  | _, _, .nil => rfl
  | _, _, .cons (a := p) (b := q) h r => by rw [List.any_cons, List.any_cons, any_rp hF k r, hF p q h]
theorem put_rp {κ : Type} [DecidableEq κ] {R : V → PyData → Prop} {v : V} {d : PyData} (k : κ) (h : R v d) {vs : List (κ × V)} {ds : List (κ × PyData)} (r : Paired (fun (p : κ × V) (q : κ × PyData) => p.1 = q.1 ∧ R p.2 q.2) vs ds) :
    Paired (fun (p : κ × V) (q : κ × PyData) => p.1 = q.1 ∧ R p.2 q.2) (putK vs k v) (putP ds k d) := by
  unfold putK putP
  rw [any_rp (fun p q z => z.1) k r]
  split
  · have mp : ∀ {vs : List (κ × V)} {ds : List (κ × PyData)}, Paired (fun (p : κ × V) (q : κ × PyData) => p.1 = q.1 ∧ R p.2 q.2) vs ds → Paired (fun (p : κ × V) (q : κ × PyData) => p.1 = q.1 ∧ R p.2 q.2) (vs.map fun kv => if kv.1 = k then (kv.1, v) else kv) (ds.map fun kv => if kv.1 = k then (kv.1, d) else kv) := by
      intro vs ds r
      induction r with
      | nil => exact .nil
      | cons z _ ih =>
        rename_i p q _ _ _
        refine .cons ?_ ih
        show (if p.1 = k then (p.1, v) else p).1 = (if q.1 = k then (q.1, d) else q).1 ∧ R (if p.1 = k then (p.1, v) else p).2 (if q.1 = k then (q.1, d) else q).2
        by_cases y : p.1 = k
        · rw [if_pos y, if_pos (z.1.symm.trans y)]
          exact ⟨z.1, h⟩
        · rw [if_neg y, if_neg (fun w => y (z.1.trans w))]
          exact z
    exact mp r
  · have app : ∀ {vs : List (κ × V)} {ds : List (κ × PyData)}, Paired (fun (p : κ × V) (q : κ × PyData) => p.1 = q.1 ∧ R p.2 q.2) vs ds → Paired (fun (p : κ × V) (q : κ × PyData) => p.1 = q.1 ∧ R p.2 q.2) (vs ++ [(k, v)]) (ds ++ [(k, d)]) := by
      intro vs ds r
      induction r with
      | nil => exact .cons ⟨rfl, h⟩ .nil
      | cons z _ ih => exact .cons z ih
    exact app r
end
end DL

set_option Elab.async false
set_option linter.all false
set_option maxRecDepth 100000
/-! DL10: dicts by ints and texts, raise, list * int, str of an int. -/
namespace DL
open PySem PySem.Spec PyProof.Rows L2

section
variable {X : Cx} {cA : Nat → Addr} {Wx : WX} {e a b c o : Expr} {f fa fb fc fo fi : SS → Mem → Rs Dt} {fs : SS → Mem → Rs (List Dt)} {tf tg : SS → Mem → Rs Bool} {pos pos' p apos cpos : Pos} {es : List Expr} {x m : Str} {k j n cn : Nat}

def aDnew (q : Bool) : SS → Mem → Rs Dt := fun _ M => .ok (.cell q (M.size q)) (M.add q (.dK []))
theorem ae_dnew (q : Bool) : AE X cA Wx (.Dict [] [] pos) (aDnew q) := by
  refine ⟨_, pe_dnewK, fun W sv s M H Q so co h => ?_⟩
  intro d hd
  exact h (W.add q d) _ _ Wd.leAdd (co.add hd (fun b hb _ => upd_ne hb) (by rw [upd_same]; intro y; cases y) fun _ => ⟨[], upd_same, .nil⟩) ⟨d, rfl, co.add_at⟩
def dKOf (M : Mem) : Dt → Option (List (Key × PyData))
  | .cell b i => (match M.at_ b i with
    | some (.dK kvs) => some kvs
    | _ => none)
  | _ => none
theorem dKOf_rd {K : PySem.W.Frag} {W : Wd} {M : Mem} {H : Hp} {v : V} {x : Dt} {kvs : List (Key × PyData)} (co : Conc K cA W M H) (r : Rv K W v x) (h : dKOf M x = some kvs) : ∃ a vs, v = .ref a ∧ H a = some (.dK vs) ∧ Paired (KvR K W.G) vs kvs := by
  cases x with
  | p d => cases h
  | cell q i =>
    obtain ⟨a, rfl, e⟩ := r
    simp only [dKOf] at h
    split at h
    · rename_i kvs' m
      cases h
      obtain ⟨g, vs, hv, hr⟩ := co.ok q i a _ e m trivial
      exact ⟨a, vs, rfl, hv, hr⟩
    · cases h
def aDin (neg : Bool) (fk fd : SS → Mem → Rs Dt) : SS → Mem → Rs Dt := fun s M => (fk s M).bind fun y M1 => (fd s M1).bind fun x M2 => match keyOf y, dKOf M2 x with
  | some k, some kvs => .ok (.p (.bool (if neg then !(valP kvs k).isSome else (valP kvs k).isSome))) M2
  | _, _ => .st
theorem val_some {K : PySem.W.Frag} {G : Hp} {vs : List (Key × V)} {kvs : List (Key × PyData)} (k : Key) (r : Paired (KvR K G) vs kvs) : (valV vs k).isSome = (valP kvs k).isSome := by
  obtain ⟨h1, h2⟩ := val_rp (R := Rp K G) (fun p q z => z) k r
  cases q : valP kvs k with
  | none =>
    rw [h1 q]
    rfl
  | some d =>
    obtain ⟨v, e, _⟩ := h2 d q
    rw [e]
    rfl
theorem ae_din (hu : X.A.units + 1 < cLine) (hk : AE X cA Wx a fa) (hd : AE X cA Wx b fb) (hm : behindInMarks .In b = false := by rfl) : AE X cA Wx (.Compare a [.In] [b] pos) (aDin false fa fb) := by
  obtain ⟨ta, pa, ha⟩ := hk
  obtain ⟨tb, pb, hb⟩ := hd
  refine ⟨_, pe_cmp (pc_din hu pa pb) hm, fun W sv s M H Q so co h => ?_⟩
  refine ha W sv s M H _ so co (PostG.bind h fun y M1 W1 v H1 _ l1 c1 r1 h1 => ?_)
  refine hb W1 sv s M1 H1 _ (so.mono l1) c1 (PostG.bind h1 fun x M2 W2 w H2 _ l2 c2 r2 h2 => ?_)
  split at h2
  · rename_i k kvs e1 e2
    obtain ⟨a1, vs, rfl, hv, hr⟩ := dKOf_rd c2 r2 e2
    refine ⟨a1, valV vs k, rfl, ?_, ?_⟩
    · rw [keyOf_rd r1 e1]
      exact DGet.k hv
    · rw [val_some k hr]
      exact h2 W2 _ H2 (Le.refl _) c2 (Rp.bl _)
  · exact h2.elim
theorem ae_dnotin (hu : X.A.units + 1 < cLine) (hk : AE X cA Wx a fa) (hd : AE X cA Wx b fb) (hm : behindInMarks .NotIn b = false := by rfl) : AE X cA Wx (.Compare a [.NotIn] [b] pos) (aDin true fa fb) := by
  obtain ⟨ta, pa, ha⟩ := hk
  obtain ⟨tb, pb, hb⟩ := hd
  refine ⟨_, pe_cmp (pc_dnotin hu pa pb) hm, fun W sv s M H Q so co h => ?_⟩
  refine ha W sv s M H _ so co (PostG.bind h fun y M1 W1 v H1 _ l1 c1 r1 h1 => ?_)
  refine hb W1 sv s M1 H1 _ (so.mono l1) c1 (PostG.bind h1 fun x M2 W2 w H2 _ l2 c2 r2 h2 => ?_)
  split at h2
  · rename_i k kvs e1 e2
    obtain ⟨a1, vs, rfl, hv, hr⟩ := dKOf_rd c2 r2 e2
    refine ⟨a1, valV vs k, rfl, ?_, ?_⟩
    · rw [keyOf_rd r1 e1]
      exact DGet.k hv
    · rw [val_some k hr]
      exact h2 W2 _ H2 (Le.refl _) c2 (Rp.bl _)
  · exact h2.elim
def aDget (fd fk : SS → Mem → Rs Dt) : SS → Mem → Rs Dt := fun s M => (fd s M).bind fun x M1 => (fk s M1).bind fun y M2 => match dKOf M2 x, keyOf y with
  | some kvs, some k => (match valP kvs k with
    | some d => .ok (.p d) M2
    | none => .st)
  | _, _ => .st
theorem ae_dget (hu : X.A.units + 1 < cLine) (hd : AE X cA Wx a fa) (hk : AE X cA Wx b fb) (hs : NoSl b := by exact fun _ _ => rfl) : AE X cA Wx (.Subscript a b pos) (aDget fa fb) := by
  obtain ⟨ta, pa, ha⟩ := hd
  obtain ⟨tb, pb, hb⟩ := hk
  refine ⟨_, pe_dget hu pa pb hs, fun W sv s M H Q so co h => ?_⟩
  refine ha W sv s M H _ so co (PostG.bind h fun x M1 W1 w H1 _ l1 c1 r1 h1 => ?_)
  refine hb W1 sv s M1 H1 _ (so.mono l1) c1 (PostG.bind h1 fun y M2 W2 v H2 _ l2 c2 r2 h2 => ?_)
  split at h2
  · rename_i kvs k e1 e2
    split at h2
    · rename_i d e3
      obtain ⟨a1, vs, rfl, hv, hr⟩ := dKOf_rd c2 (r1.mono l2) e1
      obtain ⟨u, e4, r4⟩ := (val_rp (R := Rp X.K W2.G) (fun p q z => z) k hr).2 d e3
      refine ⟨a1, u, rfl, ?_, h2 W2 u H2 (Le.refl _) c2 r4⟩
      rw [keyOf_rd r2 e2, ← e4]
      exact DGet.k hv
    · exact h2.elim
  · exact h2.elim
def dputD : Dt → Dt → Dt → Mem → Rs Unit := fun o i v M => (toP v M).bind fun d M1 => match o, keyOf i with
  | .cell q n, some k => (match M1.at_ q n with
    | some (.dK kvs) => if kvs.length < sizeLine then .ok () (M1.set q n (.dK (putP kvs k d))) else .st
    | _ => .st)
  | _, _ => .st
def aDput (f fo fi : SS → Mem → Rs Dt) : SS → Mem → Rs Fl := fun s M => (f s M).bind fun v M1 => (fo s M1).bind fun o M2 => (fi s M2).bind fun i M3 => (dputD o i v M3).bind fun _ M4 => .ok (.nx s) M4
theorem Paired.len2 {α β : Type} {F : α → β → Prop} : ∀ {xs : List α} {ys : List β}, Paired F xs ys → xs.length = ys.length
  | _, _, .nil => rfl
  | _, _, .cons _ r => by simp [Paired.len2 r]
theorem as_dput (hu : X.A.units + 1 < cLine) (hv : AE X cA Wx e f) (ho : AE X cA Wx o fo) (hi : AE X cA Wx a fi) (hs : swapsWith e (some (.Subscript o a pos')) pos.line X.env = pure false := by rfl) : AS X cA Wx (.Assign [.Subscript o a pos'] e pos) (aDput f fo fi) := by
  obtain ⟨te, pe, hv⟩ := hv
  obtain ⟨to, po, ho⟩ := ho
  obtain ⟨ti, pi, hi⟩ := hi
  refine ⟨_, ps_dput hu po pi pe hs, fun W sv s M H D so co h => ?_⟩
  refine hv W sv s M H _ so co (PostS.bind h fun v M1 W1 vv H1 _ l1 c1 r1 h1 => ?_)
  refine ho W1 sv s M1 H1 _ (so.mono l1) c1 (PostS.bind h1 fun o M2 W2 ov H2 _ l2 c2 r2 h2 => ?_)
  refine hi W2 sv s M2 H2 _ (so.mono (l1.trans l2)) c2 (PostS.bind h2 fun i M3 W3 iv H3 _ l3 c3 r3 h3 => ?_)
  unfold dputD at h3
  cases q : toP v M3 with
  | ok d M4 =>
    obtain ⟨W4, l4, c4, r4⟩ := toP_ok c3 (r1.mono (l2.trans l3)) q
    rw [q] at h3
    simp only [Rs.bind] at h3
    cases o with
    | p o => exact h3.elim
    | cell qq n =>
      cases e1 : keyOf i with
      | none =>
        rw [e1] at h3
        exact h3.elim
      | some k =>
        rw [e1] at h3
        simp only at h3
        cases e2 : M4.at_ qq n with
        | none =>
          rw [e2] at h3
          exact h3.elim
        | some cc =>
          rw [e2] at h3
          cases cc with
          | dK kvs =>
            simp only at h3
            by_cases z : kvs.length < sizeLine
            · rw [if_pos z] at h3
              obtain ⟨a1, rfl, ea⟩ := r2.mono (l3.trans l4)
              obtain ⟨g, vs, hv1, hr⟩ := c4.ok qq n a1 _ ea e2 trivial
              refine ⟨a1, upd H3 a1 (.dK (putK vs k vv)), rfl, ?_, ?_⟩
              · rw [keyOf_rd r3 e1]
                exact DPut.k hv1 (by rw [Paired.len2 hr]; exact z)
              · refine h3 W4 sv _ l4 (c4.set ea e2 trivial (fun b hb _ => upd_ne hb) (by rw [upd_same]; intro y; cases y) fun _ => ⟨_, upd_same, ?_⟩) (so.mono ((l1.trans l2).trans (l3.trans l4)))
                exact put_rp (R := Rp X.K W4.G) k r4 hr
            · rw [if_neg z] at h3
              exact h3.elim
          | _ => exact h3.elim
  | ex c M4 => exact (toP_ex q).elim
  | st =>
    rw [q] at h3
    exact h3.elim

/-! ### raise -/
/-- an exception class of the program without an own __init__ -/
structure ExcF (K : PySem.W.Frag) (mg : Str → Option Value) (cA : Nat → Addr) (x : Str) (c : Nat) : Prop where
  exc : PySem.W.excIn K (cA c) [.type "ValueError", .type "Exception", .type "BaseException", .type "object"] "ValueError.__new__" = true
  mg : mg x = some (.ref (cA c))
  kp : PySem.W.keepIn K (.ref (cA c)) = true
  sub : PySem.W.subIn K (.ref (cA c)) (.type "BaseException") = some true
  ty : PySem.W.typeIn K (.ref (cA c)) = some (.type "type")
def aRaise (c : Nat) : SS → Mem → Rs Fl := fun _ M => .ex ⟨c, none⟩ M
theorem as_raise {cn : Nat} {msg : Str} {j : Nat} {p2 p3 : Pos} (hc : X.calm = true) (tk : Takes X Wx) (E : ExcF X.K X.mg cA x cn) (hg : Gl X x) (hdb : (x == ("__debug__" : Str)) = false := by decide) : AS X cA Wx (.Raise (some (.Call (.Name x p) [.Constant (.str msg) j p2] [] p3)) none pos) (aRaise cn) :=
  ⟨_, ps_raise hc tk (pmk_own PySem.F.excBase_ValueError E.exc E.mg E.kp (raises_own E.sub E.ty) hg hdb), fun W sv s M H D so co h => h W sv H _ none (Le.refl W) co ⟨rfl, rfl⟩⟩

/-! ### [..] * n -/
theorem RpAll.rep {K : PySem.W.Frag} {G : Hp} {vs : List V} {ds : List PyData} (r : RpAll K G vs ds) : ∀ n : Nat, RpAll K G (List.replicate n vs).flatten (List.replicate n ds).flatten
  | 0 => .nil
  | n + 1 => by
    rw [List.replicate_succ, List.replicate_succ, List.flatten_cons, List.flatten_cons]
    exact r.append (RpAll.rep r n)
/-- a list display times an int -/
def aRep (fs : SS → Mem → Rs (List Dt)) (fb : SS → Mem → Rs Dt) : SS → Mem → Rs (List PyData) := fun s M => (aLst fs s M).bind fun ds M1 => (fb s M1).bind fun y M2 => match intOf y with
  | some k => if -(2 ^ 63) ≤ k ∧ k < 2 ^ 63 ∧ ds.length * k.toNat ≤ sizeLine then .ok (List.replicate k.toNat ds).flatten M2 else .st
  | none => .st
theorem al_rep {p1 : Pos} (ha : AA X cA Wx es fs) (hb : AE X cA Wx b fb) : AL X cA Wx (.BinOp (.List es p1) .Mult b pos) (aRep fs fb) := by
  obtain ⟨ta, pa, ha⟩ := al_lst (pos := p1) ha
  obtain ⟨tb, pb, hb⟩ := hb
  refine al_mk (pe_op op_rep pa pb) fun W sv s M H Q so co h => ha W sv s M H _ so co ?_
  unfold aRep at h
  cases z : aLst fs s M with
  | ex c M1 =>
    rw [z] at h
    exact h
  | st =>
    rw [z] at h
    exact h
  | ok ds M1 =>
    rw [z] at h
    intro W1 vs l H1 l1 c1 r1 hn
    have c2 := c1.put (o := .lst vs) hn
    have le := c1.lePut (o := .lst vs) hn
    refine hb _ sv s M1 _ _ (so.mono (l1.trans le)) c2 (PostL.bind (PostL.mono (l1.trans le) h) fun y M2 W2 w H2 _ l2 c3 r2 h2 => ?_)
    have hl : H2 l = some (.lst vs) := c3.sub _ _ (l2.G _ _ (show upd W1.G l (.lst vs) l = _ from upd_same))
    have rr : RpAll X.K W2.G vs ds := (r1.mono le.G).mono l2.G
    split at h2
    · rename_i k e2
      by_cases q : -(2 ^ 63) ≤ k ∧ k < 2 ^ 63 ∧ ds.length * k.toNat ≤ sizeLine
      · rw [if_pos q] at h2
        exact ⟨l, k, vs, rfl, intOf_rd r2 e2, hl, q.1, q.2.1, by rw [rr.length]; exact q.2.2, fun p hp => h2 W2 _ p H2 (Le.refl _) c3 (rr.rep k.toNat) hp⟩
      · rw [if_neg q] at h2
        exact h2.elim
    · exact h2.elim
end
end DL

set_option Elab.async false
set_option linter.all false
set_option maxRecDepth 100000
/-! DL11: facts of the module by name, for the printed derivations. -/
namespace DL
open PySem PySem.Spec PyProof.Rows L2

/-- a constant of the module -/
structure GC (K : PySem.W.Frag) (mg : Str → Option Value) (x : Str) (d : PyData) : Prop where
  ex : ∃ u v, mg x = some u ∧ RelV v u ∧ ∀ G, Rp K G v d
section
variable {X : Cx} {cA : Nat → Addr} {Wx : WX} {e a b : Expr} {f fa fb : SS → Mem → Rs Dt} {x : Str} {pos : Pos}
theorem ae_gc {d : PyData} (h : GC X.K X.mg x d) (hg : Gl X x) (hd : (x == ("__debug__" : Str)) = false := by decide) : AE X cA Wx (.Name x pos) (aC d) := by
  obtain ⟨u, v, hm, r, rd⟩ := h
  exact ae_glob hg hm r rd hd
theorem din_core {ta tb : TE} (ha : ∀ (W : Wd) (sv : L2.St) (s : SS) (M : Mem) (H : Hp) (Q : VK), SlOk X.K W sv s → Conc X.K cA W M H → PostG X.K cA (Rv X.K) (fa s M) W Q (fun c d H' => Wx c d sv H') → ta sv H Q)
    (hb : ∀ (W : Wd) (sv : L2.St) (s : SS) (M : Mem) (H : Hp) (Q : VK), SlOk X.K W sv s → Conc X.K cA W M H → PostG X.K cA (Rv X.K) (fb s M) W Q (fun c d H' => Wx c d sv H') → tb sv H Q)
    (W : Wd) (sv : L2.St) (s : SS) (M : Mem) (H : Hp) (Q : VK) (so : SlOk X.K W sv s) (co : Conc X.K cA W M H) (h : PostG X.K cA (Rv X.K) (aDin false fa fb s M) W Q (fun c d H' => Wx c d sv H')) : tDIn ta tb sv H Q := by
  refine ha W sv s M H _ so co (PostG.bind h fun y M1 W1 v H1 _ l1 c1 r1 h1 => ?_)
  refine hb W1 sv s M1 H1 _ (so.mono l1) c1 (PostG.bind h1 fun x M2 W2 w H2 _ l2 c2 r2 h2 => ?_)
  split at h2
  · rename_i k kvs e1 e2
    obtain ⟨a1, vs, rfl, hv, hr⟩ := dKOf_rd c2 r2 e2
    refine ⟨a1, valV vs k, rfl, ?_, ?_⟩
    · rw [keyOf_rd r1 e1]
      exact DGet.k hv
    · rw [val_some k hr]
      exact h2 W2 _ H2 (Le.refl _) c2 (Rp.bl _)
  · exact h2.elim
theorem at_din (hu : X.A.units + 1 < cLine) (hk : AE X cA Wx a fa) (hd : AE X cA Wx b fb) (hm : behindInMarks .In b = false := by rfl) : AT X cA Wx (.Compare a [.In] [b] pos) (aB (aDin false fa fb)) := by
  obtain ⟨ta, pa, ha⟩ := hk
  obtain ⟨tb, pb, hb⟩ := hd
  refine ⟨_, pt_cmp (pc_din hu pa pb) hm, fun W sv s M H Q so co h => ?_⟩
  refine din_core ha hb W sv s M H _ so co (PostG.bind h fun d M1 W1 v H1 _ l1 c1 r h1 => ?_)
  split at h1
  · rename_i b e
    exact ⟨b, isB_rv r e, h1 W1 b H1 (Le.refl _) c1 rfl⟩
  · exact h1.elim
theorem din_core2 {ta tb : TE} (ha : ∀ (W : Wd) (sv : L2.St) (s : SS) (M : Mem) (H : Hp) (Q : VK), SlOk X.K W sv s → Conc X.K cA W M H → PostG X.K cA (Rv X.K) (fa s M) W Q (fun c d H' => Wx c d sv H') → ta sv H Q)
    (hb : ∀ (W : Wd) (sv : L2.St) (s : SS) (M : Mem) (H : Hp) (Q : VK), SlOk X.K W sv s → Conc X.K cA W M H → PostG X.K cA (Rv X.K) (fb s M) W Q (fun c d H' => Wx c d sv H') → tb sv H Q)
    (W : Wd) (sv : L2.St) (s : SS) (M : Mem) (H : Hp) (Q : VK) (so : SlOk X.K W sv s) (co : Conc X.K cA W M H) (h : PostG X.K cA (Rv X.K) (aDin true fa fb s M) W Q (fun c d H' => Wx c d sv H')) : tDNotIn ta tb sv H Q := by
  refine ha W sv s M H _ so co (PostG.bind h fun y M1 W1 v H1 _ l1 c1 r1 h1 => ?_)
  refine hb W1 sv s M1 H1 _ (so.mono l1) c1 (PostG.bind h1 fun x M2 W2 w H2 _ l2 c2 r2 h2 => ?_)
  split at h2
  · rename_i k kvs e1 e2
    obtain ⟨a1, vs, rfl, hv, hr⟩ := dKOf_rd c2 r2 e2
    refine ⟨a1, valV vs k, rfl, ?_, ?_⟩
    · rw [keyOf_rd r1 e1]
      exact DGet.k hv
    · rw [val_some k hr]
      exact h2 W2 _ H2 (Le.refl _) c2 (Rp.bl _)
  · exact h2.elim
theorem at_dnotin (hu : X.A.units + 1 < cLine) (hk : AE X cA Wx a fa) (hd : AE X cA Wx b fb) (hm : behindInMarks .NotIn b = false := by rfl) : AT X cA Wx (.Compare a [.NotIn] [b] pos) (aB (aDin true fa fb)) := by
  obtain ⟨ta, pa, ha⟩ := hk
  obtain ⟨tb, pb, hb⟩ := hd
  refine ⟨_, pt_cmp (pc_dnotin hu pa pb) hm, fun W sv s M H Q so co h => ?_⟩
  refine din_core2 ha hb W sv s M H _ so co (PostG.bind h fun d M1 W1 v H1 _ l1 c1 r h1 => ?_)
  split at h1
  · rename_i b e
    exact ⟨b, isB_rv r e, h1 W1 b H1 (Le.refl _) c1 rfl⟩
  · exact h1.elim
def aNeg (f : SS → Mem → Rs Dt) : SS → Mem → Rs Dt := fun s M => (f s M).bind fun x M1 => match intOf x with
  | some i => .ok (.p (.int (-i))) M1
  | none => .st
theorem ae_neg (ha : AE X cA Wx a f) : AE X cA Wx (.UnaryOp .USub a pos) (aNeg f) := by
  obtain ⟨ta, pa, ha⟩ := ha
  refine ⟨_, pe_un un_neg pa, fun W sv s M H Q so co h => ha W sv s M H _ so co (PostG.bind h fun d M1 W1 v H1 _ l1 c1 r1 h1 => ?_)⟩
  split at h1
  · rename_i i e1
    exact ⟨i, intOf_rd r1 e1, h1 W1 _ H1 (Le.refl _) c1 (Rp.int _)⟩
  · exact h1.elim
end
/-- the built-ins stand as they are -/
structure Blt (mg : Str → Option Value) : Prop where
  len : mg "len" = none
  abs : mg "abs" = none
  max : mg "max" = none
  min : mg "min" = none
  int : mg "int" = none
  str : mg "str" = none
  bool : mg "bool" = none
  list : mg "list" = none
  tuple : mg "tuple" = none
  dict : mg "dict" = none
  set : mg "set" = none
  range : mg "range" = none
  enumerate : mg "enumerate" = none
  isinstance : mg "isinstance" = none
  all : mg "all" = none
  any : mg "any" = none
  sum : mg "sum" = none
  sorted : mg "sorted" = none
  reversed : mg "reversed" = none
  zip : mg "zip" = none
  repr : mg "repr" = none
  super : mg "super" = none
/-- a def of the module -/
structure DefF (K : PySem.W.Frag) (mg : Str → Option Value) (x : Str) (st : Stmt) (ps : List Str) : Prop where
  ex : ∃ (f : Addr) (fd : FuncData), FunD K x x (defArgs st) (defBody st) (defScope st) [] [] f fd ∧ mg x = some (.ref f) ∧ Binds K fd ps []
/-- a method of a class of the module -/
structure MetF (K : PySem.W.Frag) (cA : Nat → Addr) (c : Nat) (m qual : Str) (st : Stmt) (ps : List Str) : Prop where
  ex : ∃ (f : Addr) (fd : FuncData), FunD K m qual (defArgs st) (defBody st) (defScope st) [] [] f fd ∧ Cls K (cA c) ∧ Meth K (cA c) m f ∧ Binds K fd ps []
structure PrpF (K : PySem.W.Frag) (cA : Nat → Addr) (c : Nat) (m qual : Str) (st : Stmt) : Prop where
  ex : ∃ (f p : Addr) (fd : FuncData), FunD K m qual (defArgs st) (defBody st) (defScope st) [] [] f fd ∧ Cls K (cA c) ∧ PropOf K (cA c) m p f ∧ Binds K fd ["self"] []
/-- the __init__ of a class, with its defaults -/
structure InitF (K : PySem.W.Frag) (mg : Str → Option Value) (cA : Nat → Addr) (x : Str) (c : Nat) (qual : Str) (st : Stmt) (ps : List Str) (dfl : List PyData) : Prop where
  ex : ∃ (f : Addr) (fd : FuncData) (kws : List (Str × V)) (dvs dv0 : List V) (ds : List Value), FunD K "__init__" qual (defArgs st) (defBody st) (defScope st) dv0 kws f fd ∧ Mk K (cA c) f ∧ mg x = some (.ref (cA c)) ∧ Binds K fd ps ds ∧ Vals dvs ds ∧ ∀ G, RpAll K G dvs dfl
theorem boot_abs2 : bootBuiltins "abs" = some (.builtin "abs") := by decide +kernel
theorem boot_max2 : bootBuiltins "max" = some (.builtin "max") := by decide +kernel
theorem boot_min2 : bootBuiltins "min" = some (.builtin "min") := by decide +kernel
theorem boot_intT : bootBuiltins "int" = some (.type "int") := by decide +kernel
theorem boot_all2 : bootBuiltins "all" = some (.builtin "all") := by decide +kernel
theorem boot_repr2 : bootBuiltins "repr" = some (.builtin "repr") := by decide +kernel
theorem boot_len2 : bootBuiltins "len" = some (.builtin "len") := by decide +kernel
theorem boot_strT : bootBuiltins "str" = some (.type TyN.str.name) := by decide +kernel
theorem boot_listT : bootBuiltins "list" = some (.type TyN.lst.name) := by decide +kernel
theorem boot_tupleT : bootBuiltins "tuple" = some (.type TyN.tup.name) := by decide +kernel
theorem boot_boolT : bootBuiltins "bool" = some (.type TyN.bl.name) := by decide +kernel
theorem boot_intT2 : bootBuiltins "int" = some (.type TyN.int.name) := by decide +kernel
theorem boot_dictT : bootBuiltins "dict" = some (.type TyN.dct.name) := by decide +kernel
section
variable {X : Cx} {k : Nat}
theorem hr80 (hr : Room k X.A) : X.A.units + 80 < cLine := by
  have := hr.un
  omega
theorem hu1 (hr : Room k X.A) : X.A.units + 1 < cLine := by
  have := hr.un
  omega
end
end DL

set_option Elab.async false
set_option linter.all false
set_option maxRecDepth 100000
set_option maxHeartbeats 4000000
/-! DL12: what the top has left, read off by names; a law's end over FnG. -/
namespace DL
open PySem PySem.Spec PyProof.Rows L2
/-! ### the hook -/
structure DX where
  ad : PySem.W.Frag → Addr
  name : Str
  qual : Str
  st : Stmt
  kwd : List (Str × He.Dv) := []
def fX (K : PySem.W.Frag) (a : Addr) : He.FnW := match K.lookup a with
  | some ⟨_, _, .func g, _⟩ => some (g.name, g.qualname, g.params, g.body, g.scope, g.globals, g.closure, g.builtins)
  | _ => none
def DX.val (d : DX) : He.FnW := some (d.name, d.qual, defArgs d.st, .stmts (defBody d.st), defScope d.st, mainGlobals, [], builtinsNs)
def DX.kws (K : PySem.W.Frag) (d : DX) : List (Str × V) := d.kwd.map fun q => (q.1, q.2.v K)
def DX.ok (K : PySem.W.Frag) (d : DX) : Bool := PySem.W.keepIn K (.ref (d.ad K)) && (match K.lookup (d.ad K) with
  | some ⟨_, _, .func g, _⟩ => PySem.W.codeIn K g.code d.qual && (He.dflB K g.defaults [] && He.kwdB K g.kwdefaults (d.kws K))
  | _ => false)
theorem DX.funD {K : PySem.W.Frag} {d : DX} (e : fX K (d.ad K) = d.val) (c : d.ok K = true) : ∃ fd, FunD K d.name d.qual (defArgs d.st) (defBody d.st) (defScope d.st) [] (d.kws K) (d.ad K) fd := by
  obtain ⟨kp, cc⟩ := He.ba c
  unfold fX at e
  cases lk : K.lookup (d.ad K) with
  | none =>
    rw [lk] at cc
    cases cc
  | some ob =>
    obtain ⟨c1, d1, dt, sl1⟩ := ob
    rw [lk] at cc e
    cases dt with
    | func g =>
      obtain ⟨m1, m2, m3, m4, m5, m6, m7, m8, m9, m10, m11, m12, m13, m14, m15⟩ := g
      have e' : (some (m1, m2, m3, m4, m5, m6, m7, m15) : He.FnW) = some (d.name, d.qual, defArgs d.st, .stmts (defBody d.st), defScope d.st, mainGlobals, [], builtinsNs) := e
      simp only [Option.some.injEq, Prod.mk.injEq] at e'
      obtain ⟨a1, a2, a3, a4, a5, a6, a7, a8⟩ := e'
      subst a1 a2 a3 a4 a5 a6 a7 a8
      have c3 : (PySem.W.codeIn K m13 d.qual && (He.dflB K m8 [] && He.kwdB K m9 (d.kws K))) = true := cc
      obtain ⟨b1, b2⟩ := He.ba c3
      obtain ⟨b3, b4⟩ := He.ba b2
      exact ⟨_, ⟨c1, d1, m8, m9, m10, m11, m12, m13, m14, sl1, rfl, lk, b1, He.dflB_ok b3, He.kwdB_ok b4⟩, kp⟩
    | _ => cases cc
def obsX (fa : List (PySem.W.Frag → Bool)) (fn : List DX) (K : PySem.W.Frag) : He.AlD := ((fa.all fun f => f K) && fn.all fun d => d.ok K, fn.map fun d => fX K (d.ad K))
def valX (fn : List DX) : He.AlD := (true, fn.map DX.val)
def SaysX (fa : List (PySem.W.Frag → Bool)) (fn : List DX) (K : PySem.W.Frag) : Prop := obsX fa fn K = valX fn
def obsXG (n : Nat) (fa : List (PySem.W.Frag → Bool)) (fn : List DX) (g : Addr → Option Obj) : He.AlD := obsX fa fn (He.frG g (He.asD g n))
def hookX (n : Nat) (fa : List (PySem.W.Frag → Bool)) (fn : List DX) : PySem.W.Hook where
  α := He.AlD
  obs := fun s => obsXG n fa fn s.heap.get?
  val := fun _ => valX fn
  says := fun _ h => ∃ KK : PySem.W.Frag, KK.In h ∧ SaysX fa fn KK
  of := fun _ _ e => ⟨_, He.frG_in, e⟩
  keeps := fun _ _ _ ⟨KK, hh, cc⟩ kk => ⟨KK, PySem.W.Frag.In.keeps hh kk, cc⟩
theorem obsXG_eq {n : Nat} {fa : List (PySem.W.Frag → Bool)} {fn : List DX} {g : Addr → Option Obj} {s : Shared} (h : ∀ a, g a = s.heap.get? a) : obsXG n fa fn g = (hookX n fa fn).obs s := by
  have eg : g = s.heap.get? := funext h
  subst eg
  rfl
section
variable {fa : List (PySem.W.Frag → Bool)} {fn : List DX} {K : PySem.W.Frag}
theorem SaysX.fact (c : SaysX fa fn K) (i : Nat) {f : PySem.W.Frag → Bool} (h : fa[i]? = some f := by rfl) : f K = true := by
  have z1 : ((fa.all fun f => f K) && fn.all fun d => d.ok K) = true := congrArg (fun y : He.AlD => y.1) c
  exact List.all_eq_true.mp (He.ba z1).1 f (List.mem_of_getElem? h)
theorem SaysX.fun_ (c : SaysX fa fn K) (i : Nat) {d : DX} (h : fn[i]? = some d := by rfl) : ∃ fd, FunD K d.name d.qual (defArgs d.st) (defBody d.st) (defScope d.st) [] (d.kws K) (d.ad K) fd := by
  have z1 : ((fa.all fun f => f K) && fn.all fun d => d.ok K) = true := congrArg (fun y : He.AlD => y.1) c
  have z2 : fn.map (fun d => fX K (d.ad K)) = fn.map DX.val := congrArg (fun y : He.AlD => y.2) c
  refine DX.funD ?_ (List.all_eq_true.mp (He.ba z1).2 d (List.mem_of_getElem? h))
  have z3 := congrArg (fun l => l[i]?) z2
  simp only [List.getElem?_map, h, Option.map_some] at z3
  exact Option.some.inj z3
end
/-! ### facts -/
def fOk (f : He.Fa) : PySem.W.Frag → Bool := fun K => f.ok K
def prG (K : PySem.W.Frag) (x m : Str) : Addr := match PySem.W.recIn K (He.ma K (He.ga K x) m) "property" with
  | some (.ref g :: _) => g
  | _ => 0
def prB (x m : Str) : PySem.W.Frag → Bool := fun K => He.eqO (PySem.W.findIn K (.ref (He.ga K x)) m) (some (some (.ref (He.ma K (He.ga K x) m)))) && (He.eqO (PySem.W.specialIn K (.ref (He.ma K (He.ga K x) m)) "__get__") (some (some (.builtin "property.__get__"))) && (decide (PySem.W.takesIn K (.ref (He.ma K (He.ga K x) m)) = some true) && (match PySem.W.recIn K (He.ma K (He.ga K x) m) "property" with
  | some (.ref _ :: _) => true
  | _ => false)))
theorem prB_ok {K : PySem.W.Frag} {x m : Str} (c : prB x m K = true) : PropOf K (He.ga K x) m (He.ma K (He.ga K x) m) (prG K x m) := by
  obtain ⟨c1, c⟩ := He.ba c
  obtain ⟨c2, c⟩ := He.ba c
  obtain ⟨c3, c4⟩ := He.ba c
  refine ⟨He.eqO_ok c1, He.eqO_ok c2, of_decide_eq_true c3, ?_⟩
  unfold prG
  split at c4
  · rename_i g rest e
    exact ⟨rest, by rw [e]⟩
  · cases c4
def dvP : PyData → He.Dv
  | .none => .non
  | .bool b => .bl b
  | .int i => .int i
  | .str x => .str x
  | _ => .non
def flatD : PyData → Bool
  | .none => true
  | .bool _ => true
  | .int _ => true
  | .str _ => true
  | _ => false
theorem dvP_ok {K : PySem.W.Frag} {G : Hp} : ∀ {d : PyData}, flatD d = true → Rp K G ((dvP d).v K) d
  | .none, _ => .non
  | .bool b, _ => .bl b
  | .int i, _ => .int i
  | .str x, _ => .str x
theorem dvP_all {K : PySem.W.Frag} {G : Hp} : ∀ {ds : List PyData}, ds.all flatD = true → RpAll K G ((ds.map dvP).map (He.Dv.v K)) ds
  | [], _ => .nil
  | d :: ds, h => by
    rw [List.all_cons] at h
    obtain ⟨h1, h2⟩ := He.ba h
    exact .cons (dvP_ok h1) (dvP_all h2)
section
variable {K : PySem.W.Frag} {h : Heap} {mg : Str → Option Value} {cA : Nat → Addr}
theorem gc_int (X : K.In h) (G : h.Ns mainGlobals mg) {x : Str} {i : Int} (c : fOk (.int x i) K = true) : GC K mg x (.int i) := by
  obtain ⟨t, e⟩ := He.int_ok X G c
  exact ⟨_, .int i, e, ⟨t, rfl⟩, fun _ => .int i⟩
theorem gc_str (X : K.In h) (G : h.Ns mainGlobals mg) {x z : Str} (c : fOk (.str x z) K = true) : GC K mg x (.str z) := by
  obtain ⟨t, e⟩ := He.str_ok X G c
  exact ⟨_, .str z, e, ⟨t, rfl⟩, fun _ => .str z⟩
def tpB (x : Str) (ds : List PyData) : PySem.W.Frag → Bool := fun K => (He.Fa.glo x).ok K && (ds.all flatD && He.tupB K x (ds.map dvP))
theorem gc_tup (X : K.In h) (G : h.Ns mainGlobals mg) {x : Str} {ds : List PyData} (c : tpB x ds K = true) : GC K mg x (.tuple ds) := by
  obtain ⟨c1, c⟩ := He.ba c
  obtain ⟨c2, c3⟩ := He.ba c
  exact ⟨_, .ref (He.ga K x), He.glo_ok X G c1, rfl, fun H => .tup (He.tupB_ok c3 H) (dvP_all c2)⟩
theorem defF_mk (X : K.In h) (G : h.Ns mainGlobals mg) {x : Str} {st : Stmt} {ps : List Str} {fd : FuncData} (F : FunD K x x (defArgs st) (defBody st) (defScope st) [] [] (He.ga K x) fd) (c : fOk (.glo x) K = true)
    (b : ∀ (kV doc pm : Value) (an : Option Addr) (cdv ct : Value) (us : List Value), us.length = ps.length → bindArgs (PySem.W.fnOf x x (defArgs st) (defBody st) (defScope st) .none kV doc pm an cdv ct) ⟨us, []⟩ = pure (ps.zip us)) : DefF K mg x st ps :=
  ⟨_, fd, F, He.glo_ok X G c, F.bindsN b⟩
theorem metF_mk {x m qual : Str} {cn : Nat} {st : Stmt} {ps : List Str} {fd : FuncData} (hc : cA cn = He.ga K x) (F : FunD K m qual (defArgs st) (defBody st) (defScope st) [] [] (He.ma K (He.ga K x) m) fd) (c : fOk (.cls x) K = true) (c2 : fOk (.meth x m) K = true)
    (b : ∀ (kV doc pm : Value) (an : Option Addr) (cdv ct : Value) (us : List Value), us.length = ps.length → bindArgs (PySem.W.fnOf m qual (defArgs st) (defBody st) (defScope st) .none kV doc pm an cdv ct) ⟨us, []⟩ = pure (ps.zip us)) : MetF K cA cn m qual st ps :=
  ⟨_, fd, F, hc ▸ He.cls_ok c, hc ▸ He.meth_ok c2, F.bindsN b⟩
theorem prpF_mk {x m qual : Str} {cn : Nat} {st : Stmt} {fd : FuncData} (hc : cA cn = He.ga K x) (F : FunD K m qual (defArgs st) (defBody st) (defScope st) [] [] (prG K x m) fd) (c : fOk (.cls x) K = true) (c2 : prB x m K = true)
    (b : ∀ (kV doc pm : Value) (an : Option Addr) (cdv ct : Value) (us : List Value), us.length = (["self"] : List Str).length → bindArgs (PySem.W.fnOf m qual (defArgs st) (defBody st) (defScope st) .none kV doc pm an cdv ct) ⟨us, []⟩ = pure ((["self"] : List Str).zip us)) : PrpF K cA cn m qual st :=
  ⟨_, _, fd, F, hc ▸ He.cls_ok c, hc ▸ prB_ok c2, F.bindsN b⟩
theorem excF_mk (X : K.In h) (G : h.Ns mainGlobals mg) {x : Str} {cn : Nat} (hc : cA cn = He.ga K x) (g : fOk (.glo x) K = true) (c : fOk (.exc x) K = true) : ExcF K mg cA x cn := by
  obtain ⟨c1, c2, c3, c4⟩ := He.exc_ok c
  exact ⟨hc ▸ c1, hc ▸ He.glo_ok X G g, hc ▸ c2, hc ▸ c3, hc ▸ c4⟩
theorem noatt_mk {x f : Str} {cn : Nat} (hc : cA cn = He.ga K x) (c : fOk (.cls x) K = true) (c2 : fOk (.noat x f) K = true) : Cls K (cA cn) ∧ NoAttr K (cA cn) f := hc ▸ ⟨He.cls_ok c, He.noat_ok c2⟩
end
end DL

set_option Elab.async false
set_option linter.all false
set_option maxRecDepth 100000
set_option maxHeartbeats 4000000
/-! DL13: the end of a law whose def stands over the layer. -/
namespace DL
open PySem PySem.Spec PyProof.Rows L2
/-- no object of the written part is a list -/
def noLs : PySem.W.Frag → Bool := fun K => K.all fun p => !(match p.2.cls with
  | .type c => decide (c = "list")
  | _ => false)
theorem noLs_lookup : ∀ {K : PySem.W.Frag}, noLs K = true → ∀ {a : Addr} {o : Obj}, K.lookup a = some o → o.cls ≠ .type "list"
  | [], _, _, _, e => by cases e
  | (b, o) :: K, h, a, o', e => by
    unfold noLs at h
    rw [List.all_cons] at h
    obtain ⟨h1, h2⟩ := He.ba h
    simp only [List.lookup] at e
    split at e
    · cases e
      intro z
      rw [show o.cls = .type "list" from z] at h1
      simp at h1
    · exact noLs_lookup (K := K) h2 e
theorem rp_ints {K : PySem.W.Frag} {G : Hp} : ∀ ns : List Int, RpAll K G (ns.map V.int) (ns.map PyData.int)
  | [] => .nil
  | n :: ns => .cons (.int n) (rp_ints ns)
section
variable {P : Program} {w : World} {K : PySem.W.Frag} {mg mb : Str → Option Value} {k : Nat} {fa a : Addr} {fd : FuncData} {x : Str} {s1 : Shared} {us : List Value} {ns : List Int} {cA : Nat → Addr} {FL : List Dt → Mem → Rs Dt} {M1 : Mem}
theorem law_atG (inK : K.In s1.heap) (nG : s1.heap.Ns mainGlobals mg) (nB : s1.heap.Ns builtinsNs mb) (bB : ∀ y : Str, y ≠ "__name__" → mb y = bootBuiltins y) (lim : s1.heap.NoLimit) (gen0 : s1.gens = #[])
    (obj : s1.heap.get? a = some { cls := .type "list", data := .seq us.toArray }) (allI : IntsAre us ns) (len : ns.length ≤ sizeLine) (room : Room k callerA) (noL : noLs K = true)
    (FF : ∀ base : Heap, K.In base → base.Ns mainGlobals mg → FnG P w K mg base k fa fd [x] (spF K cA 1 FL)) (bind : ∀ (s : Shared) (u : Value), BindsTo s fd ⟨[u], []⟩ [(x, u)])
    (hFL : FL [.p (.list (ns.map PyData.int))] ⟨[], []⟩ = .ok (.p (.bool true)) M1) :
    codeAny (model P w) callerA (.call (.ref fa) ⟨[.ref a], []⟩) (fun r t => r = .ok (.ret (.bool true)) ∧ OldK s1.heap t.heap ∧ t.os = s1.os ∧ AllBare t.gens) s1 := by
  have vals := vals_ints allI
  have lenU := allI.length
  have notK : K.lookup a = none := by
    cases q : K.lookup a with
    | none => rfl
    | some o =>
      have e1 := inK a o q
      rw [obj] at e1
      exact absurd (congrArg Obj.cls (Option.some.inj e1)).symm (noLs_lookup noL q)
  let HO1 : HO := .frz { cls := .type "list", data := .seq us.toArray } (.lst (ns.map V.int))
  let H1 : Hp := fun b => if b = a then some HO1 else none
  have at1 : H1 a = some HO1 := if_pos rfl
  have off1 : ∀ {b : Addr}, b ≠ a → H1 b = none := fun n => if_neg n
  have only1 : ∀ {b : Addr} {u : HO}, H1 b = some u → b = a ∧ u = HO1 := fun {b u} e => by
    by_cases z : b = a
    · subst z
      exact ⟨rfl, (Option.some.inj (at1.symm.trans e)).symm⟩
    · rw [off1 z] at e
      cases e
  have held : HOk P w H1 s1.heap := fun b u e => by
    obtain ⟨rfl, rfl⟩ := only1 e
    exact ⟨obj, by rw [List.length_map]; exact len, us, _, vals, obj⟩
  have keepB : ∀ {b : Addr} {o : Obj}, s1.heap.get? b = some o → H1 b = none → (hidT s1.heap H1).get? b = some o := fun e1 e2 => hidT_get e1 e2
  have dictOff : ∀ {b : Addr} {o : Obj} {es : Array DictEntry} {n : Nat}, s1.heap.get? b = some o → o.data = .dict es n → H1 b = none := fun {b o es n} e1 e2 => by
    by_cases z : b = a
    · subst z
      rw [obj] at e1
      cases e1
      cases e2
    · exact off1 z
  have nsB : ∀ {b : Addr} {m : Str → Option Value}, s1.heap.Ns b m → (hidT s1.heap H1).Ns b m := fun {b m} ⟨o, es, n, e1, e2, e3⟩ => ⟨o, es, n, keepB e1 (dictOff e1 e2), e2, e3⟩
  have inB : K.In (hidT s1.heap H1) := fun b o e1 => keepB (inK b o e1) (off1 fun z => by
    subst z
    rw [notK] at e1
    cases e1)
  have md : Mod K mg (hidT s1.heap H1) := ⟨inB, nsB nG, ⟨mb, nsB nB, bB⟩, let ⟨mc, z1, z2⟩ := lim; ⟨mc, nsB z1, z2⟩⟩
  have env : Env0 P w K mg (hidT s1.heap H1) callerA [] s1 H1 := ⟨rfl, md, fun b o e1 => of_hidT e1, Nat.le_of_eq (hidT_size _ _), trivial, fun b hb => absurd hb (by simp [frs]), held, .of_eq gen0⟩
  have conc : Conc K cA ⟨[], [], H1, []⟩ ⟨[], []⟩ H1 := by
    refine ⟨rfl, rfl, ?_, fun _ _ z => z, ?_, ?_, fun p hp => by cases hp⟩
    · intro b i b' j a' e
      cases b <;> simp [Wd.at_] at e
    · intro b i a' e
      cases b <;> simp [Wd.at_] at e
    · intro b i a' c e
      cases b <;> simp [Wd.at_] at e
  have pre : spF K cA 1 FL [.ref a] H1 (fun v _ => v = .bl true) (fun _ _ _ => False) := by
    refine ⟨⟨[], [], H1, []⟩, ⟨[], []⟩, [.p (.list (ns.map PyData.int))], rfl, conc, .cons (.lst (.inr ⟨_, at1⟩) (rp_ints ns)) .nil, ?_⟩
    rw [hFL]
    intro W' v H' _ _ r
    cases r
    rfl
  refine codeAny_mono ((FF _ inB (nsB nG)).run callerA rfl [] s1 H1 ⟨[.ref a], []⟩ [.ref a] [.ref a] _ _ room env (bind s1 (.ref a)) (.cons rfl .nil) pre) fun r t h => ?_
  cases r with
  | error e =>
    obtain ⟨_, _, _, _, _, _, _, _, _, _, _, _, no⟩ := h
    exact no.elim
  | ok fl =>
    cases fl with
    | ret u =>
      obtain ⟨v, H2, os, bare, un, ok2, rel, isT⟩ := h
      obtain rfl : v = V.bl true := isT
      obtain rfl : u = Value.bool true := rel
      refine ⟨rfl, OldK.of_keep fun b o e1 => ?_, os, bare⟩
      by_cases z : b = a
      · subst z
        have z2 := un.frzs b _ _ at1
        obtain ⟨e2, _⟩ := ok2 b _ z2
        rw [obj] at e1
        cases e1
        exact e2
      · exact un.keep b o e1 (off1 z) (by intro y; simp [frs] at y) (by simp)
    | next => exact h.elim
    | brk => exact h.elim
    | cont => exact h.elim
end
theorem walk_overG {l : PySem.W.OpenLaw} {n k : Nat} {q : Program} {loose : List Str} {XP : (Str → Option Value) → Heap → Prop} {YP : World → Heap → Prop} {d : DefRec} {x : Str} {cA : PySem.W.Frag → Nat → Addr} {FL : List Dt → Mem → Rs Dt}
    (most : l.most = some n) (small : n ≤ sizeLine) (nod : d.params.defaults = []) (room : Room k callerA)
    (pure_ : ∀ ns : List Int, ns.length ≤ n → ∃ M1, FL [.p (.list (ns.map PyData.int))] ⟨[], []⟩ = .ok (.p (.bool true)) M1)
    (FF : ∀ (w : World) (mg : Str → Option Value) (fa : Addr) (h : Heap), YP w h → h.Ns mainGlobals mg → mg d.name = some (.ref fa) →
      ∃ (K : PySem.W.Frag) (fd : FuncData), K.In h ∧ noLs K = true ∧ (∀ (s : Shared) (u : Value), BindsTo s fd ⟨[u], []⟩ [(x, u)]) ∧
        ∀ base : Heap, K.In base → base.Ns mainGlobals mg → FnG l.prog w K mg base k fa fd [x] (spF K (cA K) 1 FL)) :
    PySem.W.WalkO q loose XP YP l.row.toRowW d [] (fun f vs => PySem.call f vs) := by
  refine Att.attach_call most nod fun w t0 t1 mg mb fa o pm cd doc a us ns gr yp ho hd hcd hmg hobj allI hlen gen0 => ?_
  obtain ⟨K, fd, inK, noL, bind, FK⟩ := FF w mg fa _ yp gr.T.g hmg
  obtain ⟨M1, e⟩ := pure_ ns hlen
  exact law_atG inK gr.T.g gr.T.b gr.T.builtins gr.T.nolimit gen0 hobj allI (Nat.le_trans hlen small) room noL FK bind e
theorem fm_nil {α : Type} {p : α → Prop} : ∀ c ∈ ([] : List α), p c := fun _ h => by cases h
theorem fm_cons {α : Type} {p : α → Prop} {a : α} {l : List α} (h : p a) (t : ∀ c ∈ l, p c) : ∀ c ∈ a :: l, p c := fun c hc => by
  rcases List.mem_cons.mp hc with rfl | z
  · exact h
  · exact t c z
theorem initF_mk0 {K : PySem.W.Frag} {h : Heap} {mg : Str → Option Value} {cA : Nat → Addr} (X : K.In h) (G : h.Ns mainGlobals mg) {x qual : Str} {cn : Nat} {st : Stmt} {ps : List Str} {fd : FuncData} {kws : List (Str × V)} {dfl : List PyData} (n : Nat) (hc : cA cn = He.ga K x) (F : FunD K "__init__" qual (defArgs st) (defBody st) (defScope st) [] kws (He.ma K (He.ga K x) "__init__") fd)
    (g : fOk (.glo x) K = true) (c : fOk (.mkr x) K = true) (hk : kws ≠ []) (hn : n + kws.length = ps.length) (hd : ∀ G, RpAll K G (kws.map (·.2)) dfl)
    (b : ∀ (D : Addr) (doc pm : Value) (an : Option Addr) (cdv ct : Value) (us ks : List Value), us.length = n → ks.length = kws.length →
      KwChain D ((kws.map (·.1)).zip ks) (bindArgs (PySem.W.fnOf "__init__" qual (defArgs st) (defBody st) (defScope st) .none (.ref D) doc pm an cdv ct) ⟨us, []⟩) (ps.zip (us ++ ks))) : InitF K mg cA x cn qual st ps dfl := by
  obtain ⟨ds, hv, hb⟩ := F.binds0 n hk hn b
  exact ⟨_, fd, kws, _, [], ds, F, hc ▸ He.mkr_ok c, hc ▸ He.glo_ok X G g, hb, hv, hd⟩
end DL

set_option Elab.async false
set_option linter.all false
set_option maxRecDepth 100000
/-! DL14: lists of objects, calls with keywords, zip over lists of objects. -/
namespace DL
open PySem PySem.Spec PyProof.Rows L2
section
variable {X : Cx} {cA : Nat → Addr} {Wx : WX} {e e2 a b : Expr} {f g fa fb : SS → Mem → Rs Dt} {fs fk : SS → Mem → Rs (List Dt)} {pos p : Pos} {es : List Expr} {x : Str} {k j n cn : Nat} {F : List Dt → Mem → Rs Dt}
/-! ### lists of cells -/
def Dt.outB : Dt → Bool
  | .cell true _ => false
  | _ => true
theorem outB_ok {d : Dt} (h : d.outB = true) : d.out := by
  cases d with
  | p d => trivial
  | cell b i => cases b <;> first | trivial | cases h
theorem ro_of {K : PySem.W.Frag} {W : Wd} : ∀ {vs : List V} {ds : List Dt}, RvAll K W vs ds → ds.all Dt.outB = true → RoAll K W vs ds
  | _, _, .nil, _ => .nil
  | _, _, .cons r rs, h => by
    rw [List.all_cons] at h
    obtain ⟨h1, h2⟩ := Bool.and_eq_true_iff.mp h
    exact .cons (outB_ok h1) r (ro_of rs h2)
def aNewD (fs : SS → Mem → Rs (List Dt)) : SS → Mem → Rs Dt := fun s M => (fs s M).bind fun xs M1 => if xs.all Dt.outB = true ∧ xs.length ≤ sizeLine then .ok (.cell false (M1.size false)) (M1.add false (.lsd xs)) else .st
theorem ae_newD (h : AA X cA Wx es fs) : AE X cA Wx (.List es pos) (aNewD fs) := by
  obtain ⟨ta, pa, ha⟩ := h
  refine ⟨_, pe_lst pa, fun W sv s M H Q so co h => ha W sv s M H _ so co (PostG.bind h fun xs M1 W1 vs H1 _ l1 c1 r1 h1 => ?_)⟩
  by_cases z : xs.all Dt.outB = true ∧ xs.length ≤ sizeLine
  · rw [if_pos z] at h1
    refine ⟨by rw [r1.length]; exact z.2, fun q hn => ?_⟩
    refine h1 (W1.add false q) _ _ Wd.leAdd (c1.add hn (fun b hb _ => upd_ne hb) (by rw [upd_same]; intro y; cases y) fun _ => ⟨vs, upd_same, ?_⟩) ⟨q, rfl, c1.add_at⟩
    exact (ro_of r1 z.1).mono Wd.leAdd
  · rw [if_neg z] at h1
    exact h1.elim
def lsdOf (M : Mem) : Dt → Option (List Dt)
  | .cell q i => (match M.at_ q i with
    | some (.lsd ds) => some ds
    | _ => none)
  | _ => none
theorem lsdOf_rd {K : PySem.W.Frag} {W : Wd} {M : Mem} {H : Hp} {v : V} {x : Dt} {ds : List Dt} (co : Conc K cA W M H) (r : Rv K W v x) (h : lsdOf M x = some ds) : ∃ a vs, v = .ref a ∧ H a = some (.lst vs) ∧ RoAll K W vs ds := by
  cases x with
  | p d => cases h
  | cell q i =>
    obtain ⟨a, rfl, e⟩ := r
    simp only [lsdOf] at h
    split at h
    · rename_i ds' m
      cases h
      obtain ⟨g, vs, hv, hr⟩ := co.ok q i a _ e m trivial
      exact ⟨a, vs, rfl, hv, hr⟩
    · cases h
def ixLD : Dt → Dt → Mem → Rs Dt := fun x y M => match intOf y, lsdOf M x with
  | some i, some ds => (match atI ds i with
    | some d => .ok d M
    | none => .st)
  | _, _ => .st
theorem ae_ixL (ha : AE X cA Wx a fa) (hb : AE X cA Wx b fb) (hs : PlainIx b := by exact fun _ _ => rfl) : AE X cA Wx (.Subscript a b pos) (aOp ixLD fa fb) := by
  obtain ⟨ta, pa, ha⟩ := ha
  obtain ⟨tb, pb, hb⟩ := hb
  refine ⟨_, pe_ix ix_seq pa pb hs, aop_core (fun W M H x y dx dy Q E co rx ry hp => ?_) ha hb⟩
  unfold ixLD at hp
  split at hp
  · rename_i i ds e1 e2
    split at hp
    · rename_i d e3
      obtain ⟨a1, vs, q1, h1, r1⟩ := lsdOf_rd co rx e2
      unfold atI at e3
      obtain ⟨m, e4, e5⟩ := Option.bind_eq_some_iff.mp e3
      obtain ⟨v, h3, r3⟩ := r1.get e5
      refine .inl ⟨a1, vs, i, v, q1, intOf_rd ry e1, .inl (.inl h1), ?_, hp W v H (Le.refl W) co r3⟩
      unfold atI
      rw [r1.length, e4]
      exact h3
    · exact hp.elim
  · exact hp.elim
/-! ### C(.., k = v) -/
/-- the class numbered c made with keywords ks for the last parameters; n counts self and the written ones -/
structure CalKK (P : Program) (w : World) (K : PySem.W.Frag) (mg : Str → Option Value) (base : Heap) (cA : Nat → Addr) (x : Str) (c k n : Nat) (ks : List Str) (N : Nat) (F : List Dt → Mem → Rs Dt) : Prop where
  ex : ∃ (f : Addr) (fd : FuncData) (ps : List Str), FnG P w K mg base k f fd ps (spF K cA N F) ∧ Mk K (cA c) f ∧ mg x = some (.ref (cA c)) ∧ KBn K fd ps (n + 1) ks (fun us ws => us ++ ws) (fun vs zs => vs ++ zs) ∧ n + 1 + ks.length = N
structure AK (X : Cx) (cA : Nat → Addr) (Wx : WX) (kws : List Keyword) (f : SS → Mem → Rs (List Dt)) : Prop where
  ex : ∃ tk, PK X kws tk ∧ ∀ (W : Wd) (sv : L2.St) (s : SS) (M : Mem) (H : Hp) (Q : List V → Hp → Prop), SlOk X.K W sv s → Conc X.K cA W M H → PostG X.K cA (RvAll X.K) (f s M) W Q (fun c d H' => Wx c d sv H') → tk sv H Q
theorem ak_nil : AK X cA Wx [] aNil := ⟨_, pk_nil, fun W sv s M H Q so co h => h W [] H (Le.refl _) co .nil⟩
theorem ak_cons {nm : Option Str} {kpos : Pos} {kws : List Keyword} (ha : AE X cA Wx e f) (hr : AK X cA Wx kws fs) : AK X cA Wx (⟨nm, e, kpos⟩ :: kws) (aCons f fs) := by
  obtain ⟨ta, pa, ha⟩ := ha
  obtain ⟨tb, pb, hb⟩ := hr
  exact ⟨_, pk_cons pa pb, fun W sv s M H Q so co h => ha W sv s M H _ so co (PostG.bind h fun dx M1 W1 x H1 _ l1 c1 rx h1 => hb W1 sv s M1 H1 _ (so.mono l1) c1 (PostG.bind h1 fun dy M2 W2 y H2 _ l2 c2 ry h2 => h2 W2 _ H2 (Le.refl _) c2 (.cons (rx.mono l2) ry)))⟩
theorem run_makeKG {pins : List (Addr × Obj)} {σ : L2.St} {H : Hp} {s : Shared} {Q : VK} {E : XK} {us ws : List Value} {vs zs : List V} {C f : Addr} {fd : FuncData} {ps ks : List Str} {sp : Sp} (M : Mk X.K C f) (F : FnG X.prog X.w X.K X.mg X.base k f fd ps sp) (ga : X.A.guards = some []) (hr : Room (k + 1) X.A)
    (hb : KBn X.K fd ps (n + 1) ks (fun us ws => us ++ ws) (fun vs zs => vs ++ zs)) (hx : PassesAt (L2.CX X.prog X.w) X σ E) (I : Inv X pins σ H s) (r : Vals vs us) (rz : Vals zs ws) (m1 : vs.length = n) (m2 : zs.length = ks.length)
    (h : ∀ x dx, H x = none → H dx = none → dx ≠ x → sp (.ref x :: vs ++ zs) (upd (upd H dx (.own x)) x (.ins C dx [])) (fun v H2 => v = .non ∧ Q (.ref x) H2) E) :
    wpAny (model X.prog X.w) X.A (call (.ref C) us (ks.zip ws)) (EP X pins σ Q) X.xe s := by
  have hq := h (s.heap.objs.size + 1) s.heap.objs.size (I.hok.fresh (Nat.le_succ _)) (I.hok.fresh (Nat.le_refl _)) (Nat.ne_of_lt (Nat.lt_succ_self _))
  have J := Inv.made (C := C) I
  have rs : Vals (V.ref (s.heap.objs.size + 1) :: vs) (Value.ref (s.heap.objs.size + 1) :: us) := .cons rfl r
  have rr2 := hb.rel rs rz
  have q1 : (Value.ref (s.heap.objs.size + 1) :: us).length = n + 1 := by rw [← rs.length, List.length_cons, m1]
  have gm : (X.A.under (.builtin "type.__call__" ⟨.ref C :: us, ks.zip ws⟩)).guards = some [] := by
    show pushGuards (Code.guards (.builtin "type.__call__" ⟨.ref C :: us, ks.zip ws⟩)) X.A.guards = some []
    rw [ga]
    rfl
  refine wpAny_call (make_map (f := f) I.kIn M.makes M.init (beq_iff_eq.mp M.fn) (codeAny_mono (F.run _ gm X.stack _ _ ⟨Value.ref (s.heap.objs.size + 1) :: us, ks.zip ws⟩ _ _ _ E (hr.make C us (ks.zip ws)) (J.env0.make C us (ks.zip ws)) (hb.to _ (_ :: us) ws J.kIn q1 (rz.length.symm.trans m2)) rr2 hq) ?_))
  intro r s' hq'
  cases r with
  | error e => exact hx pins _ _ e s' J hq'
  | ok fl =>
    cases fl
    case ret u =>
      obtain ⟨v, H', I3, rv, rfl, q3⟩ := J.after hq'
      exact ⟨rv, ⟨V.ref (s.heap.objs.size + 1), H', I3, rfl, q3⟩⟩
    all_goals exact hq'.elim
def aMakeK (cn : Nat) (F : List Dt → Mem → Rs Dt) (fs fk : SS → Mem → Rs (List Dt)) : SS → Mem → Rs Dt := fun s M => (fs s M).bind fun xs M1 => (fk s M1).bind fun zs M2 => (F (.cell false M2.o.length :: xs ++ zs) (M2.add false (.obj cn []))).bind fun r M3 => if isNone r = true then .ok (.cell false M2.o.length) M3 else .st
theorem ae_makeK {ks : List Str} {N : Nat} {kws : List Keyword} (c : CalKK X.prog X.w X.K X.mg X.base cA x cn k n ks N F) (ga : X.A.guards = some []) (hr : Room j X.A) (hk : k + 1 ≤ j) (hg : Gl X x) (tk : TkX X Wx) (ha : AA X cA Wx (e :: es) fs) (hkw : AK X cA Wx kws fk)
    (hn : ∀ s M xs M1, fs s M = .ok xs M1 → xs.length = n) (hn2 : ∀ s M xs M1, fk s M = .ok xs M1 → xs.length = ks.length)
    (hall : (backToKw pos (keywordEach kws X.env)).all (·.1.isSome) = true := by rfl) (hks : (backToKw pos (keywordEach kws X.env)).filterMap (·.1) = ks := by rfl) (hdb : (x == ("__debug__" : Str)) = false := by decide)
    (he : starEach (e :: es) X.env = (false, eval e X.env) :: starEach es X.env := by rfl) (hpl : ((backTo pos (starEach (e :: es) X.env)).any (·.1) || (backToKw pos (keywordEach kws X.env)).any (·.1.isNone)) = false := by rfl) :
    AE X cA Wx (.Call (.Name x p) (e :: es) kws pos) (aMakeK cn F fs fk) := by
  obtain ⟨f, fd, ps, G, hm, hmg, hb, hN⟩ := c
  obtain ⟨ta, pa, ha⟩ := ha
  obtain ⟨tk2, pk, hk2⟩ := hkw
  refine ⟨fun σ H Q => ta σ H fun vs H1 => tk2 σ H1 fun zs H2 => vs.length = n ∧ zs.length = ks.length ∧ ∀ y dx, H2 y = none → H2 dx = none → dx ≠ y → spF X.K cA N F (.ref y :: vs ++ zs) (upd (upd H2 dx (.own y)) y (.ins (cA cn) dx [])) (fun v H3 => v = .non ∧ Q (.ref y) H3) (fun c d H => Wx c d σ H), ⟨fun pins s σ H Q I h => ?_⟩, fun W sv s M H Q so co h => ?_⟩
  · refine wpAny_Call_Name_kw (ld_glob I hg hmg ?_ hdb)
    refine PySem.W.callWith_KW (h₀ := X.base) I.ok.mod.kin hm.kp hall (thn (pa.run pos pins s σ H _ I h) ?_) hpl he
    rintro us s1 ⟨vs, H1, I1, r, q⟩
    refine thn (pk.run pos pins s1 σ H1 _ I1 q) ?_
    rintro ws s2 ⟨zs, H2, I2, rz, m1, m2, q2⟩
    rw [hks]
    exact ⟨I2.kIn, run_makeKG hm G ga (hr.mono hk) hb (tk σ) I2 r rz m1 m2 q2⟩
  · refine ha W sv s M H _ so co (PostG.bind h fun xs M1 W1 vs H1 q l1 c1 r1 h1 => ?_)
    refine hk2 W1 sv s M1 H1 _ (so.mono l1) c1 (PostG.bind h1 fun zs M2 W2 ws H2 q2 l2 c2 r2 h2 => ?_)
    have r1' := r1.mono l2
    refine ⟨by rw [r1'.length]; exact hn s M xs M1 q, by rw [r2.length]; exact hn2 s M1 zs M2 q2, ?_⟩
    intro y dx hy hdx hne
    have c3 := c2.addObj (C := cn) hy hdx hne
    have hl : W2.o.length = M2.o.length := c2.lo
    have rself : Rv X.K (W2.add false y) (.ref y) (.cell false M2.o.length) := ⟨y, rfl, by show (W2.o ++ [y])[M2.o.length]? = some y; rw [← hl]; simp⟩
    refine ⟨W2.add false y, _, .cell false M2.o.length :: xs ++ zs, by rw [List.length_append, List.length_cons, hn s M xs M1 q, hn2 s M1 zs M2 q2]; exact hN, c3, RvAll.append (.cons rself (r1'.mono Wd.leAdd)) (r2.mono Wd.leAdd), ?_⟩
    cases z : F (.cell false M2.o.length :: xs ++ zs) (M2.add false (.obj cn [])) with
    | ok d M3 =>
      rw [z] at h2
      intro W3 v H3 l3 c3 r3
      simp only [Rs.bind] at h2
      by_cases y0 : isNone d = true
      · rw [if_pos y0] at h2
        exact ⟨isNone_eq r3 y0, h2 W3 _ H3 (Wd.leAdd.trans l3) c3 (rself.mono l3)⟩
      · rw [if_neg y0] at h2
        exact h2.elim
    | ex c M3 =>
      rw [z] at h2
      exact PostG.mono Wd.leAdd h2
    | st =>
      rw [z] at h2
      exact h2
/-! ### for a, b in zip(x, y), lists of objects -/
theorem lsdOf_intact {x : Dt} {M1 M2 : Mem} (h : Intact (srcOf x) M1 M2) : lsdOf M2 x = lsdOf M1 x := by
  cases x with
  | p d => rfl
  | cell b i =>
    have e := h b i rfl
    simp only [lsdOf, e]
open Classical in
noncomputable def zipL (x y : Dt) (M1 : Mem) (i j : Nat) (fb : SS → Mem → Rs Fl) : List (Dt × Dt) → SS → Mem → Rs Fl
  | [], s, M => .ok (.nx s) M
  | d :: ds, s, M => match fb ((s.set i (some d.1)).set j (some d.2)) M with
    | .ok (.nx s2) M2 => if Intact (srcOf x) M1 M2 ∧ Intact (srcOf y) M1 M2 then zipL x y M1 i j fb ds s2 M2 else .st
    | .ok (.ct s2) M2 => if Intact (srcOf x) M1 M2 ∧ Intact (srcOf y) M1 M2 then zipL x y M1 i j fb ds s2 M2 else .st
    | .ok (.bk s2) M2 => .ok (.nx s2) M2
    | .ok (.rt d) M2 => .ok (.rt d) M2
    | .ex c M2 => .ex c M2
    | .st => .st
noncomputable def aForZ (i j : Nat) (f g : SS → Mem → Rs Dt) (fb : SS → Mem → Rs Fl) : SS → Mem → Rs Fl := fun s M => (f s M).bind fun x M1 => (g s M1).bind fun y M2 => match lsdOf M2 x, lsdOf M2 y with
  | some ds, some es => if ds.length = es.length then zipL x y M2 i j fb (ds.zip es) s M2 else .st
  | _, _ => .st
theorem walk_zipA {K : PySem.W.Frag} {a b : Addr} {n : Nat} : Walk (Itz K a b) n (fun H => ∃ us ws, SqL K H a us ∧ us.length = n ∧ SqL K H b ws ∧ ws.length = n) (fun i H v H' => ∃ T x y, v = .ref T ∧ H T = none ∧ H' = upd H T (.tup [x, y]) ∧ (∀ xs, SqL K H a xs → xs[i]? = some x) ∧ ∀ ys, SqL K H b ys → ys[i]? = some y) :=
  ⟨fun i _ hi ⟨us, ws, q, e, q2, e2⟩ => ⟨us, ws, us[i]'(by omega), ws[i]'(by omega), q, q2, by simp [show i < us.length by omega], by simp [show i < ws.length by omega]⟩, fun _ ⟨us, ws, q, e, q2, e2⟩ => ⟨us, ws, q, q2, .inl (by omega)⟩, fun _ _ _ _ _ _ y => y⟩
theorem as_forZ {y z : Str} {i j kk : Nat} {tpos py pz fpos : Pos} {body : List Stmt} {fbd : SS → Mem → Rs Fl} (hp : PassesOwn (model X.prog X.w) X.A X.env X.xe) (hc : X.calm = true) (hg : Gl X "zip") (hm : X.mg "zip" = none) (h1 : AE X cA Wx e f) (h2 : AE X cA Wx e2 g)
    (hN : X.N.Nodup) (hy : X.N[i]? = some y) (hz : X.N[j]? = some z) (ly : Loc X.env.scope y) (lz : Loc X.env.scope z) (hfy : X.fn y = true ∨ X.env.scope.names.lookup y = some .local) (hfz : X.fn z = true ∨ X.env.scope.names.lookup z = some .local) (hb : ASs X cA Wx body fbd)
    (hs : ∀ x, foldedSetIterable (.Call (.Name "zip" p) [e, e2] [] pos) X.env x = pure x := by intro _; rfl)
    (hst : starEach [e, e2] X.env = (false, eval e X.env) :: starEach [e2] X.env := by rfl) (hst2 : starEach [e2] X.env = (false, eval e2 X.env) :: starEach [] X.env := by rfl) (hpl : (backTo pos (starEach [e2] X.env)).any (·.1) = false := by rfl)
    (ha1 : (assignEach [.Name y py, .Name z pz] X.env).map (·.2) = assign (.Name y py) X.env :: (assignEach [.Name z pz] X.env).map (·.2) := by rfl) (ha2 : (assignEach [.Name z pz] X.env).map (·.2) = assign (.Name z pz) X.env :: (assignEach [] X.env).map (·.2) := by rfl)
    (hn : (assignEach [.Name y py, .Name z pz] X.env).length = 2 := by rfl) (hfi : (assignEach [.Name y py, .Name z pz] X.env).findIdx? (·.1) = none := by rfl) :
    AS X cA Wx (.For (.Tuple [.Name y py, .Name z pz] kk tpos) (.Call (.Name "zip" p) [e, e2] [] pos) body [] fpos) (aForZ i j f g fbd) := by
  obtain ⟨t1, p1, h1⟩ := h1
  obtain ⟨t2, p2, h2⟩ := h2
  obtain ⟨tb, pb, hb⟩ := hb
  refine ⟨_, ps_for hp hc (pi_zip hg hm (pa_cons p1 (pa_cons p2 pa_nil hst2) hst) hst hpl) (pg_tup hc (pgs_cons (pg_name hN hy ly hfy) (pgs_cons (pg_name hN hz lz hfz) pgs_nil ha2) ha1) hn hfi) pb hs, fun W sv s M H D so co h => ?_⟩
  refine h1 W sv s M H _ so co (PostS.bind h fun x M1 W1 v H1 _ l1 c1 r1 hh1 => ?_)
  refine h2 W1 sv s M1 H1 _ (so.mono l1) c1 (PostS.bind hh1 fun x2 M2 W2 v2 H2 _ l2 c2 r2 hh2 => ?_)
  split at hh2
  · rename_i ds es e1 e3
    by_cases hl : ds.length = es.length
    · rw [if_pos hl] at hh2
      have r1' := r1.mono l2
      obtain ⟨a1, us, rfl, k1, rr1⟩ := lsdOf_rd c2 r1' e1
      obtain ⟨a2, ws, rfl, k2, rr2⟩ := lsdOf_rd c2 r2 e3
      refine ⟨a1, a2, us, ws, rfl, .inl (.inl k1), .inl (.inl k2), ?_⟩
      refine for_it (walk_zipA (n := ds.length)) (fun i' sv' H' => ∃ (W3 : Wd) (M3 : Mem) (s3 : SS), Le W2 W3 ∧ Conc X.K cA W3 M3 H' ∧ SlOk X.K W3 sv' s3 ∧ Intact (srcOf x) M2 M3 ∧ Intact (srcOf x2) M2 M3 ∧ PostS X.K cA (zipL x x2 M2 i j fbd ((ds.zip es).drop i') s3 M3) W3 D Wx)
        ⟨W2, M2, s, Le.refl _, c2, (so.mono l1).mono l2, fun _ _ _ => rfl, fun _ _ _ => rfl, hh2⟩ (fun i' sv' H' _ ⟨W3, M3, s3, l3, c3, _, ix, iy, _⟩ => ?_) ?_ ?_
      · obtain ⟨b1, us', e5, k5, r5⟩ := lsdOf_rd c3 (r1'.mono l3) ((lsdOf_intact ix).trans e1)
        obtain ⟨b2, ws', e6, k6, r6⟩ := lsdOf_rd c3 (r2.mono l3) ((lsdOf_intact iy).trans e3)
        cases e5
        cases e6
        exact ⟨us', ws', .inl (.inl k5), r5.length, .inl (.inl k6), by rw [r6.length, hl]⟩
      · rintro i' v sv' Hx Hx' hlt ⟨W3, M3, s3, l3, c3, so3, ix, iy, h3⟩ ⟨T, q1, q2, rfl, hT, rfl, y1, y2⟩
        obtain ⟨b1, us', e5, k5, r5⟩ := lsdOf_rd c3 (r1'.mono l3) ((lsdOf_intact ix).trans e1)
        obtain ⟨b2, ws', e6, k6, r6⟩ := lsdOf_rd c3 (r2.mono l3) ((lsdOf_intact iy).trans e3)
        cases e5
        cases e6
        have hi1 : i' < ds.length := hlt
        have hi2 : i' < es.length := by omega
        obtain ⟨w1, g1, g2⟩ := r5.get (List.getElem?_eq_getElem hi1)
        obtain ⟨w2, g3, g4⟩ := r6.get (List.getElem?_eq_getElem hi2)
        have y1' := y1 us' (.inl (.inl k5))
        have y2' := y2 ws' (.inl (.inl k6))
        rw [g1] at y1'
        rw [g3] at y2'
        cases y1'
        cases y2'
        have hd : (ds.zip es).drop i' = (ds[i'], es[i']) :: (ds.zip es).drop (i' + 1) := by
          rw [List.drop_eq_getElem_cons (by rw [List.length_zip]; omega)]
          simp
        rw [hd] at h3
        unfold zipL at h3
        have l4 := c3.lePut (o := .tup [q1, q2]) hT
        have so4 := ((so3.mono l4).set i (g2.mono l4)).set j (g4.mono l4)
        refine ⟨T, [q1, q2], rfl, .inl (.inl upd_same), rfl, q1, [q2], rfl, q2, [], rfl, rfl, ?_⟩
        refine hb _ _ _ _ _ _ so4 (c3.put hT) ?_
        have h4 := PostS.mono l4 h3
        cases hf : fbd ((s3.set i (some ds[i'])).set j (some es[i'])) M3 with
        | ok x M4 =>
          rw [hf] at h4
          cases x with
          | nx s4 =>
            intro W4 sv4 H4 l5 c4 so5
            simp only at h4
            split at h4
            · rename_i z
              exact ⟨W4, M4, s4, (l3.trans l4).trans l5, c4, so5, z.1, z.2, PostS.mono l5 h4⟩
            · exact h4.elim
          | ct s4 =>
            intro W4 sv4 H4 l5 c4 so5
            simp only at h4
            split at h4
            · rename_i z
              exact ⟨W4, M4, s4, (l3.trans l4).trans l5, c4, so5, z.1, z.2, PostS.mono l5 h4⟩
            · exact h4.elim
          | bk s4 => exact h4
          | rt d4 => exact h4
        | ex c M4 =>
          rw [hf] at h4
          exact h4
        | st =>
          rw [hf] at h4
          exact h4
      · rintro sv' H' ⟨W3, M3, s3, l3, c3, so3, ix, iy, h3⟩
        rw [List.drop_eq_nil_of_le (by rw [List.length_zip]; omega)] at h3
        exact h3 W3 sv' H' (Le.refl _) c3 so3
    · rw [if_neg hl] at hh2
      exact hh2.elim
  · exact hh2.elim
end
/-- the __init__ of a class, called with the keywords ks -/
structure InitK (K : PySem.W.Frag) (mg : Str → Option Value) (cA : Nat → Addr) (x : Str) (c : Nat) (qual : Str) (st : Stmt) (ps : List Str) (n : Nat) (ks : List Str) : Prop where
  ex : ∃ (f : Addr) (fd : FuncData) (kws : List (Str × V)), FunD K "__init__" qual (defArgs st) (defBody st) (defScope st) [] kws f fd ∧ Mk K (cA c) f ∧ mg x = some (.ref (cA c)) ∧ KBn K fd ps (n + 1) ks (fun us ws => us ++ ws) (fun vs zs => vs ++ zs)
theorem initK_mk {K : PySem.W.Frag} {h : Heap} {mg : Str → Option Value} {cA : Nat → Addr} (X : K.In h) (G : h.Ns mainGlobals mg) {x qual : Str} {cn : Nat} {st : Stmt} {ps ks : List Str} {fd : FuncData} {kws : List (Str × V)} (n : Nat) (hc : cA cn = He.ga K x) (F : FunD K "__init__" qual (defArgs st) (defBody st) (defScope st) [] kws (He.ma K (He.ga K x) "__init__") fd)
    (g : fOk (.glo x) K = true) (c : fOk (.mkr x) K = true) (hk : kws ≠ [])
    (b : ∀ (D : Addr) (doc pm : Value) (an : Option Addr) (cdv ct : Value) (us ws : List Value), us.length = n + 1 → ws.length = ks.length →
      bindArgs (PySem.W.fnOf "__init__" qual (defArgs st) (defBody st) (defScope st) .none (.ref D) doc pm an cdv ct) ⟨us, ks.zip ws⟩ = pure (ps.zip (us ++ ws))) : InitK K mg cA x cn qual st ps n ks := by
  obtain ⟨mv, hb⟩ := F.kbinds0 (n + 1) ks [] (fun us _ ws => us ++ ws) hk (fun q hq => by cases hq) (fun r1 _ r3 => r1.append r3) (fun D doc pm an cdv ct us mv ws l1 l2 l3 => by
    have e : mv = [] := List.length_eq_zero_iff.mp l2
    subst e
    exact b D doc pm an cdv ct us ws l1 l3)
  exact ⟨_, fd, kws, F, hc ▸ He.mkr_ok c, hc ▸ He.glo_ok X G g, hb⟩
end DL

set_option Elab.async false
set_option linter.all false
set_option maxRecDepth 100000
/-! PW: weakest preconditions over the layer's pure functions. -/
namespace DL
open PySem PySem.Spec PyProof.Rows L2
abbrev XE := Exn → Mem → Prop
def Rs.wp {α : Type} (r : Rs α) (Q : α → Mem → Prop) (E : XE) : Prop := match r with
  | .ok a M => Q a M
  | .ex c M => E c M
  | .st => False
section
variable {α β : Type} {Q Q' : α → Mem → Prop} {E : XE} {M : Mem}
theorem wp_congr {r r' : Rs α} (h : r = r') : r.wp Q E = r'.wp Q E := by rw [h]
@[simp] theorem wp_ok {a : α} : (Rs.ok a M).wp Q E = Q a M := rfl
@[simp] theorem wp_ex {c : Exn} : (Rs.ex c M : Rs α).wp Q E = E c M := rfl
@[simp] theorem wp_st : (Rs.st : Rs α).wp Q E = False := rfl
theorem wp_bind {r : Rs β} {k : β → Mem → Rs α} : (r.bind k).wp Q E = r.wp (fun a M1 => (k a M1).wp Q E) E := by
  cases r <;> rfl
theorem wp_mono {r : Rs α} (h : r.wp Q E) (q : ∀ a M1, Q a M1 → Q' a M1) : r.wp Q' E := by
  cases r with
  | ok a M => exact q a M h
  | ex c M => exact h
  | st => exact h
end
section
variable {s : SS} {M : Mem} {E : XE} {f g fa fb fc fo fi fd fk : SS → Mem → Rs Dt} {t u : SS → Mem → Rs Bool} {fs : SS → Mem → Rs (List Dt)} {fl : SS → Mem → Rs (List PyData)} {b c : SS → Mem → Rs Fl} {po ph : SS → Mem → Rs (Option Int)}
variable {Q : Dt → Mem → Prop} {QB : Bool → Mem → Prop} {QF : Fl → Mem → Prop} {QA : List Dt → Mem → Prop} {QL : List PyData → Mem → Prop}
@[simp] theorem wp_aVar {i : Nat} : (aVar i s M).wp Q E = (match s[i]? with
  | some (some d) => Q d M
  | _ => False) := by
  unfold aVar
  split <;> rename_i h <;> simp [h]
@[simp] theorem wp_aC {d : PyData} : (aC d s M).wp Q E = Q (.p d) M := rfl
@[simp] theorem wp_aOp {o : Dt → Dt → Mem → Rs Dt} : (aOp o fa fb s M).wp Q E = (fa s M).wp (fun x M1 => (fb s M1).wp (fun y M2 => (o x y M2).wp Q E) E) E := by
  simp only [aOp, wp_bind]
def IsB (x : Dt) (P : Bool → Prop) : Prop := ∃ b, x = .p (.bool b) ∧ P b
@[simp] theorem isB_p {b : Bool} {P : Bool → Prop} : IsB (.p (.bool b)) P = P b := by
  unfold IsB
  exact propext ⟨fun ⟨c, e, h⟩ => by cases e; exact h, fun h => ⟨b, rfl, h⟩⟩
theorem wp_isB {x : Dt} : (match x.isB with
  | some b => (Rs.ok b M : Rs Bool)
  | none => .st).wp QB E = IsB x fun b => QB b M := by
  cases x with
  | p d => cases d <;> simp [Dt.isB, IsB]
  | cell _ _ => simp [Dt.isB, IsB]
@[simp] theorem wp_aB : (aB f s M).wp QB E = (f s M).wp (fun x M1 => IsB x fun b => QB b M1) E := by
  simp only [aB, wp_bind]
  congr 1; funext x M1
  exact wp_isB
@[simp] theorem wp_aNot : (aNot t s M).wp QB E = (t s M).wp (fun x M1 => QB (!x) M1) E := by
  simp only [aNot, wp_bind, wp_ok]
structure Br (x : Bool) (A B : Prop) : Prop where
  t : x = true → A
  f : x = false → B
@[simp] theorem br_t {A B : Prop} : Br true A B = A := propext ⟨fun h => h.t rfl, fun h => ⟨fun _ => h, fun z => Bool.noConfusion z⟩⟩
@[simp] theorem br_f {A B : Prop} : Br false A B = B := propext ⟨fun h => h.f rfl, fun h => ⟨fun z => Bool.noConfusion z, fun _ => h⟩⟩
@[simp] theorem br_n {x : Bool} {A B : Prop} : Br (!x) A B = Br x B A := by cases x <;> simp
theorem br_congr {x y : Bool} {A B : Prop} (h : x = y) : Br x A B = Br y A B := by rw [h]
theorem Br.dec {p : Prop} [Decidable p] {A B : Prop} (h : p → A) (k : ¬ p → B) : Br (decide p) A B := ⟨fun e => h (of_decide_eq_true e), fun e => k (of_decide_eq_false e)⟩
theorem br {x : Bool} {A B : Prop} : (if x = true then A else B) = Br x A B := by
  cases x <;> simp
theorem wp_ite {α : Type} {p : Prop} [Decidable p] {r r' : Rs α} {Q : α → Mem → Prop} : (if p then r else r').wp Q E = if p then r.wp Q E else r'.wp Q E := by
  split <;> rfl
@[simp] theorem wp_aOr : (aOr t u s M).wp QB E = (t s M).wp (fun x M1 => Br x (QB true M1) ((u s M1).wp QB E)) E := by
  simp only [aOr, wp_bind, wp_ite, wp_ok, br]
@[simp] theorem wp_aAnd : (aAnd t u s M).wp QB E = (t s M).wp (fun x M1 => Br x ((u s M1).wp QB E) (QB false M1)) E := by
  simp only [aAnd, wp_bind, wp_ite, wp_ok, br]
@[simp] theorem wp_aV : (aV t s M).wp Q E = (t s M).wp (fun x M1 => Q (.p (.bool x)) M1) E := by
  simp only [aV, wp_bind, wp_ok]
@[simp] theorem wp_aAndV : (aAndV fa fb s M).wp Q E = (fa s M).wp (fun x M1 => IsB x fun b => Br b ((fb s M1).wp Q E) (Q (.p (.bool false)) M1)) E := by
  simp only [aAndV, wp_bind, wp_aB, wp_ite, wp_ok, br]
@[simp] theorem wp_aOrV : (aOrV fa fb s M).wp Q E = (fa s M).wp (fun x M1 => IsB x fun b => Br b (Q (.p (.bool true)) M1) ((fb s M1).wp Q E)) E := by
  simp only [aOrV, wp_bind, wp_aB, wp_ite, wp_ok, br]
@[simp] theorem wp_aNotV : (aNotV fa s M).wp Q E = (fa s M).wp (fun x M1 => IsB x fun b => Q (.p (.bool (!b))) M1) E := by
  simp only [aNotV, wp_bind, wp_aB, wp_ok]
@[simp] theorem wp_aIf : (aIf t fa fb s M).wp Q E = (t s M).wp (fun x M1 => Br x ((fa s M1).wp Q E) ((fb s M1).wp Q E)) E := by
  simp only [aIf, wp_bind, wp_ite, br]
@[simp] theorem wp_aNil : (aNil s M).wp QA E = QA [] M := rfl
@[simp] theorem wp_aCons : (aCons f fs s M).wp QA E = (f s M).wp (fun x M1 => (fs s M1).wp (fun xs M2 => QA (x :: xs) M2) E) E := by
  simp only [aCons, wp_bind, wp_ok]
@[simp] theorem wp_aP : (aP fl s M).wp Q E = (fl s M).wp (fun ds M1 => Q (.p (.list ds)) M1) E := by
  simp only [aP, wp_bind, wp_ok]
@[simp] theorem wp_aNew {q : Bool} : (aNew q fl s M).wp Q E = (fl s M).wp (fun ds M1 => Q (.cell q (M1.size q)) (M1.add q (.lst ds))) E := by
  simp only [aNew, wp_bind, wp_ok]
def pOf : List Dt → Option (List PyData)
  | [] => some []
  | .p d :: r => (pOf r).map (d :: ·)
  | .cell _ _ :: _ => none
theorem toPs_pOf : ∀ {xs : List Dt} {ds : List PyData}, pOf xs = some ds → toPs xs M = .ok ds M
  | [], ds, h => by
    cases h
    rfl
  | .p d :: r, ds, h => by
    simp only [pOf, Option.map_eq_some_iff] at h
    obtain ⟨es, h1, rfl⟩ := h
    simp only [toPs, toP, Rs.bind, toPs_pOf h1]
  | .cell _ _ :: _, ds, h => by cases h
@[simp] theorem wp_toPs_nil : (toPs [] M).wp QL E = QL [] M := rfl
@[simp] theorem wp_toPs_p {d : PyData} {xs : List Dt} : (toPs (.p d :: xs) M).wp QL E = (toPs xs M).wp (fun ds M1 => QL (d :: ds) M1) E := by
  simp only [toPs, toP, wp_bind, wp_ok]
@[simp] theorem wp_aLst : (aLst fs s M).wp QL E = (fs s M).wp (fun xs M1 => (toPs xs M1).wp (fun ds M2 => ds.length ≤ sizeLine ∧ QL ds M2) E) E := by
  simp only [aLst, wp_bind, wp_ite, wp_ok, wp_st]
  congr 1; funext xs M1; congr 1; funext ds M2
  by_cases h : ds.length ≤ sizeLine <;> simp [h]
@[simp] theorem wp_aTup : (aTup fs s M).wp Q E = (fs s M).wp (fun xs M1 => (toPs xs M1).wp (fun ds M2 => ds.length ≤ sizeLine ∧ Q (.p (.tuple ds)) M2) E) E := by
  simp only [aTup, wp_bind, wp_ite, wp_ok, wp_st]
  congr 1; funext xs M1; congr 1; funext ds M2
  by_cases h : ds.length ≤ sizeLine <;> simp [h]
@[simp] theorem wp_aNext : (aNext s M).wp QF E = QF (.nx s) M := rfl
@[simp] theorem wp_aSeq : (aSeq b c s M).wp QF E = (b s M).wp (fun x M1 => match x with
  | .nx s1 => (c s1 M1).wp QF E
  | x => QF x M1) E := by
  simp only [aSeq, wp_bind]
  congr 1; funext x M1
  cases x <;> rfl
@[simp] theorem wp_aBreak : (aBreak s M).wp QF E = QF (.bk s) M := rfl
@[simp] theorem wp_aCont : (aCont s M).wp QF E = QF (.ct s) M := rfl
@[simp] theorem wp_aDrop : (aDrop f s M).wp QF E = (f s M).wp (fun _ M1 => QF (.nx s) M1) E := by
  simp only [aDrop, wp_bind, wp_ok]
@[simp] theorem wp_aRet : (aRet f s M).wp QF E = (f s M).wp (fun d M1 => QF (.rt d) M1) E := by
  simp only [aRet, wp_bind, wp_ok]
@[simp] theorem wp_aRetN : (aRetN s M).wp QF E = QF (.rt (.p .none)) M := rfl
@[simp] theorem wp_aIfS : (aIfS t b c s M).wp QF E = (t s M).wp (fun x M1 => Br x ((b s M1).wp QF E) ((c s M1).wp QF E)) E := by
  simp only [aIfS, wp_bind, wp_ite, br]
@[simp] theorem wp_aSet {i : Nat} : (aSet i f s M).wp QF E = (f s M).wp (fun d M1 => QF (.nx (s.set i (some d))) M1) E := by
  simp only [aSet, wp_bind, wp_ok]
@[simp] theorem wp_aRaise {n : Nat} : (aRaise n s M).wp QF E = E ⟨n, none⟩ M := rfl
/-! operations -/
@[simp] theorem intOf_p {i : Int} : intOf (.p (.int i)) = some i := rfl
@[simp] theorem strOf_p {i : Str} : DL.strOf (.p (.str i)) = some i := rfl
@[simp] theorem wp_int2 {C : Int → Int → Prop} [∀ i j, Decidable (C i j)] {o : Int → Int → PyData} {i j : Int} : (int2 C o (.p (.int i)) (.p (.int j)) M).wp Q E = (C i j ∧ Q (.p (o i j)) M) := by
  simp only [int2, intOf]
  by_cases h : C i j <;> simp [h]
@[simp] theorem wp_sub {i j : Int} : (subD (.p (.int i)) (.p (.int j)) M).wp Q E = Q (.p (.int (i - j))) M := by simp [subD]
@[simp] theorem wp_mod {i j : Int} : (modD (.p (.int i)) (.p (.int j)) M).wp Q E = (0 < j ∧ Q (.p (.int (i % j))) M) := by simp [modD]
@[simp] theorem wp_lt {i j : Int} : (ltD (.p (.int i)) (.p (.int j)) M).wp Q E = Q (.p (.bool (decide (i < j)))) M := by simp [ltD]
@[simp] theorem wp_le {i j : Int} : (leD (.p (.int i)) (.p (.int j)) M).wp Q E = Q (.p (.bool (decide (i ≤ j)))) M := by simp [leD]
@[simp] theorem wp_gt {i j : Int} : (gtD (.p (.int i)) (.p (.int j)) M).wp Q E = Q (.p (.bool (decide (j < i)))) M := by simp [gtD]
@[simp] theorem wp_ge {i j : Int} : (geD (.p (.int i)) (.p (.int j)) M).wp Q E = Q (.p (.bool (decide (j ≤ i)))) M := by simp [geD]
@[simp] theorem wp_mul {i j : Int} : (mulD (.p (.int i)) (.p (.int j)) M).wp Q E = (CMulB i j ∧ Q (.p (.int (i * j))) M) := by simp [mulD]
@[simp] theorem wp_fdiv {i j : Int} : (fdivD (.p (.int i)) (.p (.int j)) M).wp Q E = (CDiv i j ∧ Q (.p (.int (i / j))) M) := by simp [fdivD]
@[simp] theorem wp_pow {i j : Int} : (powD (.p (.int i)) (.p (.int j)) M).wp Q E = (CPow i j ∧ Q (.p (.int (i ^ j.toNat))) M) := by simp [powD]
@[simp] theorem wp_addI {i j : Int} : (addD (.p (.int i)) (.p (.int j)) M).wp Q E = Q (.p (.int (i + j))) M := by simp [addD, intOf]
@[simp] theorem wp_addS {i j : Str} : (addD (.p (.str i)) (.p (.str j)) M).wp Q E = (i.length + j.length ≤ sizeLine ∧ Q (.p (.str (i ++ j))) M) := by
  simp only [addD, intOf, strOf]
  by_cases h : i.length + j.length ≤ sizeLine <;> simp [h]
@[simp] theorem wp_addL {i j : List PyData} : (addD (.p (.list i)) (.p (.list j)) M).wp Q E = (i.length + j.length ≤ sizeLine ∧ Q (.p (.list (i ++ j))) M) := by
  simp only [addD, intOf, strOf, lstOf]
  by_cases h : i.length + j.length ≤ sizeLine <;> simp [h]
theorem wp_addX {x y : Dt} {i j : List PyData} (hx : lstOf M x = some i) (hy : lstOf M y = some j) (h : i.length + j.length ≤ sizeLine) (q : Q (.p (.list (i ++ j))) M) : (addD x y M).wp Q E := by
  have e1 : intOf x = none := by
    cases x with
    | p d => cases d <;> simp_all [lstOf, intOf]
    | cell _ _ => rfl
  have e2 : strOf x = none := by
    cases x with
    | p d => cases d <;> simp_all [lstOf, strOf]
    | cell _ _ => rfl
  simp only [addD, e1, e2, hx, hy]
  simp [h, q]
theorem eqv_str (i j : Str) : PyData.eqv (.str i) (.str j) = decide (i = j) := by
  simp only [PyData.eqv]
  exact Bool.beq_eq_decide_eq _ _
theorem strOf_eq {x : Dt} {z : Str} (h : DL.strOf x = some z) : x = .p (.str z) := by
  cases x with
  | p d =>
    cases d <;> simp [DL.strOf] at h
    rw [h]
  | cell b j => cases h
theorem wp_eq {neg : Bool} {x y : Dt} {d e : PyData} (hx : dat M x = some d) (hy : dat M y = some e) (h : SeqAt.shaped d = true ∧ SeqAt.shaped e = true) (q : Q (.p (.bool (if neg then !PyData.eqv d e else PyData.eqv d e))) M) : (eqD neg x y M).wp Q E := by
  unfold eqD
  split
  · rename_i s t e1 e2
    have e1 := strOf_eq e1
    have e2 := strOf_eq e2
    subst e1 e2
    cases hx
    cases hy
    rw [eqv_str] at q
    exact q
  · simp only [hx, hy]
    rw [if_pos h]
    exact q
@[simp] theorem wp_eqI {neg : Bool} {i j : Int} : (eqD neg (.p (.int i)) (.p (.int j)) M).wp Q E = Q (.p (.bool (if neg then !decide (i = j) else decide (i = j)))) M := by
  have h : ∀ i : Int, SeqAt.shaped (.int i) = true := fun i => by simp [SeqAt.shaped, PyData.canLay0, PyData.depth]
  simp only [eqD, DL.strOf, dat, h, and_self, if_true, wp_ok]
  congr 3
@[simp] theorem wp_eqS {neg : Bool} {i j : Str} : (eqD neg (.p (.str i)) (.p (.str j)) M).wp Q E = Q (.p (.bool (if neg then !decide (i = j) else decide (i = j)))) M := rfl
@[simp] theorem wp_isN {neg : Bool} {x : Dt} : (isND neg x (.p .none) M).wp Q E = Q (.p (.bool (if neg then !isNone x else isNone x))) M := by simp [isND, isNone]
@[simp] theorem wp_isBl {neg : Bool} {a b : Bool} : (isBD neg (.p (.bool a)) (.p (.bool b)) M).wp Q E = Q (.p (.bool (if neg then !decide (a = b) else decide (a = b)))) M := by simp [isBD, boolOf]
theorem wp_ixL {x : Dt} {ds : List PyData} {i : Int} {d : PyData} (h : seqOf M x = some ds) (h2 : atI ds i = some d) (q : Q (.p d) M) : (ixD x (.p (.int i)) M).wp Q E := by
  simp only [ixD, intOf, h, h2]
  exact q
theorem wp_ixS {x : Str} {i : Int} {c : Nat} (h2 : atI x.cps.toList i = some c) (hl : x.length ≤ sizeLine) (q : Q (.p (.str ⟨#[c]⟩)) M) : (ixD (.p (.str x)) (.p (.int i)) M).wp Q E := by
  simp only [ixD, intOf, seqOf, lstOf, tupOf, strOf, h2, hl, if_true]
  exact q
@[simp] theorem wp_aCB {o : List Dt → Mem → Rs Dt} : (aCB o fs s M).wp Q E = (fs s M).wp (fun xs M1 => (o xs M1).wp Q E) E := by
  simp only [aCB, wp_bind]
@[simp] theorem wp_aCall {F : List Dt → Mem → Rs Dt} {dfl : List PyData} : (aCall F dfl fs s M).wp Q E = (fs s M).wp (fun xs M1 => (F (xs ++ dfl.map Dt.p) M1).wp Q E) E := by
  simp only [aCall, wp_bind]
theorem wp_len {x : Dt} {ds : List PyData} (h : seqOf M x = some ds) (q : Q (.p (.int ds.length)) M) : (lenD [x] M).wp Q E := by
  simp only [lenD, h]
  exact q
@[simp] theorem wp_lenS {x : Str} : (lenD [.p (.str x)] M).wp Q E = (x.length ≤ sizeLine ∧ Q (.p (.int x.length)) M) := by
  simp only [lenD, seqOf, lstOf, tupOf, strOf]
  by_cases h : x.length ≤ sizeLine <;> simp [h]
@[simp] theorem wp_abs {i : Int} : (absD [.p (.int i)] M).wp Q E = Q (.p (.int (if i < 0 then -i else i))) M := rfl
@[simp] theorem wp_max {i j : Int} : (max2D [.p (.int i), .p (.int j)] M).wp Q E = Q (.p (.int (if j > i then j else i))) M := rfl
@[simp] theorem wp_intB {i : Bool} : (intD [.p (.bool i)] M).wp Q E = Q (.p (.int (if i then 1 else 0))) M := rfl
theorem wp_listOf {ds : List PyData} (f' : (f s M).wp (fun x M1 => ∃ ds, seqOf M1 x = some ds ∧ QL ds M1) E) : (aListOf f s M).wp QL E := by
  simp only [aListOf, wp_bind]
  refine wp_mono f' fun x M1 ⟨ds, h, q⟩ => ?_
  rw [h]
  exact q
@[simp] theorem wp_aListOf : (aListOf f s M).wp QL E = (f s M).wp (fun x M1 => ∃ ds, seqOf M1 x = some ds ∧ QL ds M1) E := by
  simp only [aListOf, wp_bind]
  congr 1; funext x M1
  cases h : seqOf M1 x <;> simp
@[simp] theorem wp_aAsg {g : Dt → SS → Option SS} : (aAsg g f s M).wp QF E = (f s M).wp (fun d M1 => ∃ s1, g d s = some s1 ∧ QF (.nx s1) M1) E := by
  simp only [aAsg, wp_bind]
  congr 1; funext x M1
  cases h : g x s <;> simp
theorem wp_setIx {q : Bool} {n : Nat} {k : Int} {d : PyData} {ds : List PyData} {j : Nat} {QU : Unit → Mem → Prop} (h : M.at_ q n = some (.lst ds)) (hj : ixN ds.length k = some j) (r : QU () (M.set q n (.lst (ds.set j d)))) : (setIx (.cell q n) (.p (.int k)) (.p d) M).wp QU E := by
  simp only [setIx, toP, Rs.bind, intOf, h, hj]
  exact r
@[simp] theorem wp_aSetIx : (aSetIx f fo fi s M).wp QF E = (f s M).wp (fun v M1 => (fo s M1).wp (fun o M2 => (fi s M2).wp (fun i M3 => (setIx o i v M3).wp (fun _ M4 => QF (.nx s) M4) E) E) E) E := by
  simp only [aSetIx, wp_bind, wp_ok]
@[simp] theorem wp_aML {o : Dt → List Dt → Mem → Rs Dt} : (aML o fo fs s M).wp Q E = (fo s M).wp (fun x M1 => (lstOf M1 x).isSome = true ∧ (fs s M1).wp (fun xs M2 => (o x xs M2).wp Q E) E) E := by
  simp only [aML, wp_bind]
  congr 1; funext x M1
  cases h : lstOf M1 x <;> simp [wp_bind]
theorem wp_append {q : Bool} {n : Nat} {d : PyData} {ds : List PyData} (h : M.at_ q n = some (.lst ds)) (hl : ds.length < sizeLine) (r : Q (.p .none) (M.set q n (.lst (ds ++ [d])))) : (appendD (.cell q n) [.p d] M).wp Q E := by
  simp only [appendD, toP, Rs.bind, h, hl, if_true]
  exact r
theorem wp_pop {q : Bool} {n : Nat} {d : PyData} {ds : List PyData} (h : M.at_ q n = some (.lst (ds ++ [d]))) (r : Q (.p d) (M.set q n (.lst ds))) : (popD (.cell q n) [] M).wp Q E := by
  simp only [popD, h]
  simp
  exact r
theorem wp_popAt {q : Bool} {n : Nat} {k : Int} {d : PyData} {ds : List PyData} (h : M.at_ q n = some (.lst ds)) (h0 : 0 ≤ k) (h1 : k < ds.length) (hl : ds.length ≤ 2 ^ 62) (hd : ds[k.toNat]? = some d) (r : Q (.p d) (M.set q n (.lst (ds.eraseIdx k.toNat)))) : (popAtD (.cell q n) [.p (.int k)] M).wp Q E := by
  have e : seqIndex? k ds.length = some k.toNat := by
    unfold seqIndex?
    have : ¬ k < 0 := by omega
    simp [this, h0, h1]
  have e2 : -(2 ^ 63) ≤ k ∧ k < 2 ^ 63 := by omega
  simp only [popAtD, h, intOf, e, hd, e2, and_self, if_true]
  exact r
theorem wp_extend {q : Bool} {n : Nat} {y : Dt} {ds es : List PyData} (h : M.at_ q n = some (.lst ds)) (hy : lstOf M y = some es) (hl : ds.length + es.length ≤ sizeLine) (r : Q (.p .none) (M.set q n (.lst (ds ++ es)))) : (extendD (.cell q n) [y] M).wp Q E := by
  simp only [extendD, h, hy, hl, if_true]
  exact r
@[simp] theorem wp_aFld {cs : List Nat} {x : Str} : (aFld cs x f s M).wp Q E = (f s M).wp (fun d M1 => (fldD cs x d M1).wp Q E) E := by
  simp only [aFld, wp_bind]
theorem wp_fld {cs : List Nat} {x : Str} {q : Bool} {n c : Nat} {fs : List (Str × Dt)} {d : Dt} (h : M.at_ q n = some (.obj c fs)) (hc : c ∈ cs) (hl : fs.lookup x = some d) (r : Q d M) : (fldD cs x (.cell q n) M).wp Q E := by
  simp only [fldD, h, hc, if_true, hl]
  exact r
@[simp] theorem wp_aSetF {cs : List Nat} {x : Str} : (aSetF cs x fo f s M).wp QF E = (f s M).wp (fun v M1 => (fo s M1).wp (fun o M2 => (setF cs x o v M2).wp (fun _ M3 => QF (.nx s) M3) E) E) E := by
  simp only [aSetF, wp_bind, wp_ok]
theorem wp_setF {cs : List Nat} {x : Str} {q : Bool} {n c : Nat} {fs : List (Str × Dt)} {d : Dt} {QU : Unit → Mem → Prop} (h : M.at_ q n = some (.obj c fs)) (hc : c ∈ cs) (hl : fs.length < 1000) (ho : d.out) (r : QU () (M.set q n (.obj c (putD x d fs)))) : (setF cs x (.cell q n) d M).wp QU E := by
  simp only [setF, h, hc, hl, ho, and_self, if_true]
  exact r
@[simp] theorem wp_aSome {QO : Option Int → Mem → Prop} : (aSome f s M).wp QO E = (f s M).wp (fun d M1 => ∃ i, intOf d = some i ∧ QO (some i) M1) E := by
  simp only [aSome, wp_bind]
  congr 1; funext x M1
  cases h : intOf x <;> simp
@[simp] theorem wp_aNone {QO : Option Int → Mem → Prop} : (aNone s M).wp QO E = QO none M := rfl
@[simp] theorem wp_aSl : (aSl f po ph s M).wp Q E = (f s M).wp (fun x M1 => (po s M1).wp (fun l M2 => (ph s M2).wp (fun h M3 => (slD x l h M3).wp Q E) E) E) E := by
  simp only [aSl, wp_bind]
theorem wp_slL {x : Dt} {ds : List PyData} {l h : Option Int} (e : lstOf M x = some ds) (r : Q (.p (.list (cutD ds l h))) M) : (slD x l h M).wp Q E := by
  simp only [slD, e]
  exact r
@[simp] theorem wp_slP {ds : List PyData} {l h : Option Int} : (slD (.p (.list ds)) l h M).wp Q E = Q (.p (.list (cutD ds l h))) M := rfl
@[simp] theorem wp_slS {x : Str} {l h : Option Int} : (slD (.p (.str x)) l h M).wp Q E = (x.length ≤ sizeLine ∧ Q (.p (.str (cutS x l h))) M) := by
  simp only [slD, lstOf, strOf]
  by_cases h : x.length ≤ sizeLine <;> simp [h]
@[simp] theorem wp_aSetL {q : Option Bool} {i : Nat} : (aSetL q i fl s M).wp QF E = (fl s M).wp (fun ds M1 => match q with
  | none => QF (.nx (s.set i (some (.p (.list ds))))) M1
  | some q => QF (.nx (s.set i (some (.cell q (M1.size q))))) (M1.add q (.lst ds))) E := by
  simp only [aSetL, wp_bind]
  congr 1; funext x M1
  cases q <;> rfl
def NoKey (ff : List (Str × Dt)) (m : Str) : Prop := ff.lookup m = none
@[simp] theorem wp_aMeth {cn : Nat} {m : Str} {F : List Dt → Mem → Rs Dt} {dfl : List PyData} : (aMeth cn m F dfl fo fs s M).wp Q E = (fo s M).wp (fun x M1 => ∃ ff, objOf M1 x = some (cn, ff) ∧ NoKey ff m ∧ (fs s M1).wp (fun xs M2 => (F (x :: xs ++ dfl.map Dt.p) M2).wp Q E) E) E := by
  simp only [aMeth, wp_bind]
  congr 1; funext x M1
  cases h : objOf M1 x with
  | none => simp
  | some p =>
    obtain ⟨c, ff⟩ := p
    simp only [Option.some.injEq, Prod.mk.injEq, ← wp_bind]
    by_cases h1 : c = cn
    · by_cases h2 : ff.lookup m = none
      · rw [if_pos ⟨h1, h2⟩]
        exact propext ⟨fun z => ⟨ff, ⟨h1, rfl⟩, h2, z⟩, fun ⟨g, ⟨_, e⟩, _, z⟩ => z⟩
      · rw [if_neg fun z => h2 z.2]
        refine propext ⟨fun z => z.elim, fun ⟨g, ⟨_, e⟩, y, z⟩ => ?_⟩
        subst e
        exact h2 y
    · rw [if_neg fun z => h1 z.1]
      exact propext ⟨fun z => z.elim, fun ⟨g, ⟨e, _⟩, y, z⟩ => h1 e⟩
@[simp] theorem wp_aMake {cn : Nat} {F : List Dt → Mem → Rs Dt} {dfl : List PyData} : (aMake cn F dfl fs s M).wp Q E = (fs s M).wp (fun xs M1 => (F (.cell false M1.o.length :: xs ++ dfl.map Dt.p) (M1.add false (.obj cn []))).wp (fun r M2 => isNone r = true ∧ Q (.cell false M1.o.length) M2) E) E := by
  simp only [aMake, wp_bind]
  congr 1; funext x M1; congr 1; funext r M2
  by_cases h : isNone r = true <;> simp [h]
theorem wp_aProp {cn : Nat} {F : List Dt → Mem → Rs Dt} (h : (fo s M).wp (fun x M1 => ∃ ff, objOf M1 x = some (cn, ff) ∧ (F [x] M1).wp Q (fun _ _ => False)) E) : (aProp cn F fo s M).wp Q E := by
  simp only [aProp, wp_bind]
  refine wp_mono h fun x M1 ⟨ff, e, q⟩ => ?_
  rw [e]
  simp only [if_true]
  cases z : F [x] M1 with
  | ok d M2 =>
    rw [z] at q
    exact q
  | ex c M2 =>
    rw [z] at q
    exact q.elim
  | st =>
    rw [z] at q
    exact q.elim
@[simp] theorem wp_aIsi {T : TyN} : (aIsi T f s M).wp Q E = (f s M).wp (fun x M1 => ∃ y, tyOfD M1 x = some y ∧ Q (.p (.bool (isTy y T))) M1) E := by
  simp only [aIsi, wp_bind]
  congr 1; funext x M1
  cases h : tyOfD M1 x <;> simp
theorem wp_repr {x : Dt} {d : PyData} (h : dat M x = some d) (h1 : SeqAt.shaped d = true) (h2 : d.showable = true) (h3 : d.shown.length ≤ sizeLine) (q : Q (.p (.str d.shown)) M) : (reprD [x] M).wp Q E := by
  simp only [reprD, h, h1, h2, h3, and_self, if_true]
  exact q
@[simp] theorem wp_aChain {o o' : Dt → Dt → Mem → Rs Dt} : (aChain o o' fa fb fc s M).wp Q E = (fa s M).wp (fun x M1 => (fb s M1).wp (fun y M2 => (o x y M2).wp (fun z M3 => IsB z fun b => Br b ((fc s M3).wp (fun w M4 => (o' y w M4).wp Q E) E) (Q (.p (.bool false)) M3)) E) E) E := by
  simp only [aChain, wp_bind]
  congr 1; funext x M1; congr 1; funext y M2; congr 1; funext z M3
  cases z with
  | p d =>
    cases d with
    | bool b => cases b <;> simp [boolOf, wp_bind]
    | _ => simp [boolOf, IsB]
  | cell _ _ => simp [boolOf, IsB]
@[simp] theorem wp_aJoin : (aJoin fo f s M).wp Q E = (fo s M).wp (fun x M1 => ∃ z, strOf x = some z ∧ (f s M1).wp (fun y M2 => ∃ ds ss, seqOf M2 y = some ds ∧ strsOf ds = some ss ∧ (ss.map (·.length)).sum + ss.length * z.length ≤ 16777216 ∧ Q (.p (.str (Txt.join z ss))) M2) E) E := by
  simp only [aJoin, wp_bind]
  congr 1; funext x M1
  cases h : strOf x with
  | none => simp
  | some z =>
    simp only [Option.some.injEq, exists_eq_left', wp_bind]
    congr 1; funext y M2
    cases h1 : seqOf M2 y with
    | none => simp
    | some ds =>
      cases h2 : strsOf ds with
      | none => simp [h2]
      | some ss =>
        by_cases h3 : (ss.map (·.length)).sum + ss.length * z.length ≤ 16777216 <;> simp [h2, h3]
theorem wp_in {neg : Bool} {y : Dt} {d : PyData} {ds : List PyData} (h : seqOf M y = some ds) (h1 : flatP d = true) (h2 : ds.all flatP = true) (q : Q (.p (.bool (if neg then !(ds.any fun y => PyData.eqv y d) else (ds.any fun y => PyData.eqv y d)))) M) : (inD neg (.p d) y M).wp Q E := by
  simp only [inD, h, h1, h2, and_self, if_true]
  exact q
theorem wp_inS {neg : Bool} {t : Str} {c : Nat} (q : Q (.p (.bool (if neg then !decide (c ∈ t.cps.toList) else decide (c ∈ t.cps.toList)))) M) : (inD neg (.p (.str ⟨#[c]⟩)) (.p (.str t)) M).wp Q E := by
  simp only [inD, seqOf, lstOf, tupOf, strOf]
  exact q
/-! loops, comprehensions, calls -/
@[simp] theorem wp_aFor {fi : SS → Mem → Rs (List PyData × Src)} {g : Dt → SS → Option SS} {fb : SS → Mem → Rs Fl} : (aFor fi g fb s M).wp QF E = (fi s M).wp (fun x M1 => (forL x.2 M1 g fb x.1 s M1).wp QF E) E := by
  simp only [aFor, wp_bind]
theorem wp_forL {src : Src} {M1 : Mem} {g : Dt → SS → Option SS} {fb : SS → Mem → Rs Fl} (I : List PyData → SS → Mem → Prop)
    (step : ∀ d ds s M, I (d :: ds) s M → ∃ s1, g (.p d) s = some s1 ∧ (fb s1 M).wp (fun x M2 => match x with
      | .nx s2 => Intact src M1 M2 ∧ I ds s2 M2
      | .ct s2 => Intact src M1 M2 ∧ I ds s2 M2
      | .bk s2 => QF (.nx s2) M2
      | .rt r => QF (.rt r) M2) E) (fin : ∀ s M, I [] s M → QF (.nx s) M) : ∀ (ds : List PyData) (s : SS) (M : Mem), I ds s M → (forL src M1 g fb ds s M).wp QF E
  | [], s, M, h => by
    simp only [forL, wp_ok]
    exact fin s M h
  | d :: ds, s, M, h => by
    obtain ⟨s1, e, w⟩ := step d ds s M h
    simp only [forL, e]
    cases z : fb s1 M with
    | ok x M2 =>
      rw [z] at w
      cases x with
      | nx s2 =>
        obtain ⟨i, w⟩ := w
        simp only [i, if_true]
        exact wp_forL I step fin ds s2 M2 w
      | ct s2 =>
        obtain ⟨i, w⟩ := w
        simp only [i, if_true]
        exact wp_forL I step fin ds s2 M2 w
      | bk s2 => exact w
      | rt r => exact w
    | ex c M2 =>
      rw [z] at w
      exact w
    | st =>
      rw [z] at w
      exact w
@[simp] theorem wp_aLc {own : List Nat} {fi : SS → Mem → Rs (List PyData × Src)} {g : Dt → SS → Option SS} {t : SS → Mem → Rs Bool} {fe : SS → Mem → Rs Dt} : (aLc own fi g t fe s M).wp QL E = (fi s M).wp (fun x M1 => (lcL x.2 M1 (wipeS s own) g t fe x.1 [] M1).wp QL E) E := by
  simp only [aLc, wp_bind]
theorem wp_lcL {src : Src} {M1 : Mem} {sw : SS} {g : Dt → SS → Option SS} {t : SS → Mem → Rs Bool} {fe : SS → Mem → Rs Dt} (I : List PyData → List PyData → Mem → Prop)
    (step : ∀ d ds acc M, I (d :: ds) acc M → ∃ s2, g (.p d) sw = some s2 ∧ (t s2 M).wp (fun b M2 => Br b ((fe s2 M2).wp (fun y M3 => ∃ q, toP y M3 = .ok q M3 ∧ acc.length < sizeLine ∧ Intact src M1 M3 ∧ I ds (acc ++ [q]) M3) (fun _ _ => False)) (Intact src M1 M2 ∧ I ds acc M2)) (fun _ _ => False))
    (fin : ∀ acc M, I [] acc M → QL acc M) : ∀ (ds acc : List PyData) (M : Mem), I ds acc M → (lcL src M1 sw g t fe ds acc M).wp QL E
  | [], acc, M, h => by
    simp only [lcL, wp_ok]
    exact fin acc M h
  | d :: ds, acc, M, h => by
    obtain ⟨s2, e, w⟩ := step d ds acc M h
    simp only [lcL, e]
    cases z : t s2 M with
    | ok b M2 =>
      rw [z] at w
      simp only [wp_ok] at w
      cases b with
      | false =>
        obtain ⟨i, w⟩ := w.f rfl
        simp only [Rs.bindN, i, if_true]
        exact wp_lcL I step fin ds acc M2 w
      | true =>
        replace w := w.t rfl
        simp only [Rs.bindN, if_true]
        cases z2 : fe s2 M2 with
        | ok y M3 =>
          rw [z2] at w
          obtain ⟨q, e2, l, i, w⟩ := w
          simp only [e2, l, i, and_self, if_true]
          exact wp_lcL I step fin ds (acc ++ [q]) M3 w
        | ex c M3 =>
          rw [z2] at w
          exact w.elim
        | st =>
          rw [z2] at w
          exact w.elim
    | ex c M2 =>
      rw [z] at w
      exact w.elim
    | st =>
      rw [z] at w
      exact w.elim
@[simp] theorem wp_exitF {out : Dt → Mem → Nat → Rs Dt} {N : Nat} {fb : SS → Mem → Rs Fl} {ds : List Dt} : (exitF out N fb ds M).wp Q E = (fb (startS N ds) M).wp (fun x M1 => match x with
  | .nx _ => Q (.p .none) (M1.cut M.m.length)
  | .rt d => (out d M1 M.m.length).wp Q E
  | _ => False) (fun c M1 => E c (M1.cut M.m.length)) := by
  unfold exitF
  cases h : fb (startS N ds) M with
  | ok x M1 => cases x <;> simp
  | ex c M1 => simp
  | st => simp
@[simp] theorem wp_outD_p {d : PyData} {n : Nat} : (outD (.p d) M n).wp Q E = Q (.p d) (M.cut n) := rfl
@[simp] theorem wp_outC_p {d : PyData} {n : Nat} : (outC (.p d) M n).wp Q E = Q (.p d) (M.cut n) := rfl
theorem wp_outD_c {i n : Nat} {ds : List PyData} (h : n ≤ i) (e : M.at_ true i = some (.lst ds)) (q : Q (.p (.list ds)) (M.cut n)) : (outD (.cell true i) M n).wp Q E := by
  have h' : ¬ i < n := by omega
  simp only [outD, h', if_false, toP, e, Rs.bind, wp_ok]
  have z : (M.set true i .dead).cut n = M.cut n := by
    simp only [Mem.set, Mem.cut, Mem.mk.injEq, and_true]
    rw [List.take_set, List.set_eq_of_length_le]
    simp
    omega
  rw [z]
  exact q
theorem wp_outC_c {i n : Nat} {ds : List PyData} (h : n ≤ i) (e : M.at_ true i = some (.lst ds)) (q : Q (.cell true n) ((M.cut n).add true (.lst ds))) : (outC (.cell true i) M n).wp Q E := by
  have h' : ¬ i < n := by omega
  have e' : M.m[i]? = some (.lst ds) := e
  simp only [outC, h', if_false, e']
  rw [if_pos (by simp [Cell.flat])]
  exact q
@[simp] theorem wp_aNeg : (aNeg f s M).wp Q E = (f s M).wp (fun d M1 => ∃ i, intOf d = some i ∧ Q (.p (.int (-i))) M1) E := by
  simp only [aNeg, wp_bind]
  congr 1; funext x M1
  cases h : intOf x <;> simp
/-! iterables -/
@[simp] theorem wp_aRange1 {QI : List PyData × Src → Mem → Prop} : (aRange1 f s M).wp QI E = (f s M).wp (fun x M1 => ∃ j, intOf x = some j ∧ -(2 ^ 62) ≤ j ∧ j < 2 ^ 62 ∧ QI (rgItems 0 j.toNat, none) M1) E := by
  simp only [aRange1, wp_bind]
  congr 1; funext x M1
  cases h : intOf x with
  | none => simp
  | some j =>
    by_cases z : -(2 ^ 62) ≤ j ∧ j < 2 ^ 62
    · simp only [z, and_self, if_true, wp_ok]
      exact propext ⟨fun q => ⟨j, rfl, z.1, z.2, q⟩, fun ⟨i, e, _, _, q⟩ => by cases e; exact q⟩
    · simp only [z, if_false, wp_st]
      exact propext ⟨fun q => q.elim, fun ⟨i, e, y1, y2, q⟩ => by cases e; exact z ⟨y1, y2⟩⟩
theorem wp_aSeqI_l {QI : List PyData × Src → Mem → Prop} (h : (f s M).wp (fun x M1 => ∃ ds, lstOf M1 x = some ds ∧ QI (ds, srcOf x) M1) E) : (aSeqI f s M).wp QI E := by
  simp only [aSeqI, wp_bind]
  refine wp_mono h fun x M1 ⟨ds, e, q⟩ => ?_
  rw [e]
  exact q
theorem wp_aSeqI_s {QI : List PyData × Src → Mem → Prop} (h : (f s M).wp (fun x M1 => ∃ z, x = .p (.str z) ∧ QI (strItems z, none) M1) E) : (aSeqI f s M).wp QI E := by
  simp only [aSeqI, wp_bind]
  refine wp_mono h fun x M1 ⟨z, e, q⟩ => ?_
  subst e
  exact q
theorem wp_aEnum {QI : List PyData × Src → Mem → Prop} (h : (f s M).wp (fun x M1 => ∃ ds, lstOf M1 x = some ds ∧ QI (enItems ds, srcOf x) M1) E) : (aEnum f s M).wp QI E := by
  simp only [aEnum, wp_bind]
  refine wp_mono h fun x M1 ⟨ds, e, q⟩ => ?_
  rw [e]
  exact q
end
end DL

set_option Elab.async false
set_option linter.all false
set_option maxRecDepth 100000
namespace G
open PySem PySem.Spec PyProof.Rows L2 DL
def top (i : Nat) : Stmt := PySem.Challenge.pw_endplaces_k47_two_live_paths.main.body.getD i (.Pass ⟨0, 0, 0, 0⟩)
/-! is_name -/
abbrev s_is_name : Stmt := top 10
def N_is_name : List Str := ["value", "char"]
theorem sc_is_name : FnScope N_is_name ["value"] (defScope s_is_name) := ⟨rfl, rfl, rfl, by decide +kernel, rfl, by decide +kernel, by decide +kernel⟩
noncomputable def b_is_name : SS → Mem → Rs Fl := (aSeq (aIfS (aOr (aNot (aB (aIsi .str (aVar 0)))) (aNot (aB (aChain leD leD (aC (.int 1)) (aCB lenD (aCons (aVar 0) aNil)) (aC (.int 12)))))) (aRet (aC (.bool false))) aNext) (aRet (aCB allD (aCons (aP (aLc [1] (aSeqI (aVar 0)) (gN 1) aYes (aOp (inD false) (aVar 1) (aC (.str "abcdefghijklmnopqrstuvwxyz0123456789./_"))))) aNil))))
noncomputable def F_is_name : List Dt → Mem → Rs Dt := exitF outD 2 b_is_name
section
variable {P : Program} {w : World} {K : PySem.W.Frag} {mg : Str → Option Value} {base : Heap} {cA : Nat → Addr}
theorem cal_is_name (D : DefF K mg "is_name" s_is_name ["value"]) (bl : Blt mg) (g_CHARS : GC K mg "CHARS" (.str "abcdefghijklmnopqrstuvwxyz0123456789./_")) (g_MOST_CHARS : GC K mg "MOST_CHARS" (.int 12)) : CalF P w K mg base cA "is_name" 1 1 [] F_is_name := by
  obtain ⟨f, fd, F, hm, hb⟩ := D
  exact ⟨f, fd, ["value"], [], [], (fund_g F sc_is_name (fun _ _ _ _ => spF_len) (fun cdv A ga outer s H vs Q E hr h => body_ok outD_ok (ass_cons (as_if (AW.at_ (aw_or (at_not (at_val (ae_isi .str (ae_var 0) rfl bl.isinstance rfl bl.str boot_strT))) (aw_or1 (at_not (at_chain od_le od_le ae_int (ae_callB cd_len rfl bl.len boot_len2 (aa_cons (ae_var 0) aa_nil)) (ae_gc g_MOST_CHARS rfl)))))) (ass_one (as_ret ae_bl)) ass_nil) (ass_one (as_ret (ae_callB (cd_all rfl) rfl bl.all boot_all2 (aa_cons (AL.p (al_lc rfl sc_is_name.nd (ai_seq (ae_var 0)) (blkOk_by (own := [("char", 1)]) (N := N_is_name) (sc := defScope s_is_name) (by decide +kernel)) (fun _ _ _ _ _ => (ag_name sc_is_name.nd rfl (.inl rfl))) (fun _ _ _ _ _ => ats_nil) (fun _ _ _ _ _ => (ae_cmp od_in (ae_var 1) (ae_gc g_CHARS rfl) rfl)))) aa_nil))))) h)), hm, F.kp, hb, .nil, fun _ => .nil⟩
end
/-! is_path -/
abbrev s_is_path : Stmt := top 11
def N_is_path : List Str := ["value", "seen", "name"]
theorem sc_is_path : FnScope N_is_path ["value"] (defScope s_is_path) := ⟨rfl, rfl, rfl, by decide +kernel, rfl, by decide +kernel, by decide +kernel⟩
noncomputable def b_is_path : SS → Mem → Rs Fl := (aSeq (aIfS (aNot (aB (aIsi .lst (aVar 0)))) (aRet (aC (.bool false))) aNext) (aSeq (aSet 1 (aDnew true)) (aSeq (aFor (aSeqI (aVar 0)) (gN 2) (aSeq (aIfS (aOr (aNot (aB (aCall F_is_name [] (aCons (aVar 2) aNil)))) (aB (aDin false (aVar 2) (aVar 1)))) (aRet (aC (.bool false))) aNext) (aDput (aC (.bool true)) (aVar 1) (aVar 2)))) (aRet (aC (.bool true))))))
noncomputable def F_is_path : List Dt → Mem → Rs Dt := exitF outD 3 b_is_path
section
variable {P : Program} {w : World} {K : PySem.W.Frag} {mg : Str → Option Value} {base : Heap} {cA : Nat → Addr}
theorem cal_is_path (D : DefF K mg "is_path" s_is_path ["value"]) (bl : Blt mg) (c_is_name : CalF P w K mg base cA "is_name" 1 1 [] F_is_name) : CalF P w K mg base cA "is_path" 2 1 [] F_is_path := by
  obtain ⟨f, fd, F, hm, hb⟩ := D
  exact ⟨f, fd, ["value"], [], [], (fund_g F sc_is_path (fun _ _ _ _ => spF_len) (fun cdv A ga outer s H vs Q E hr h => body_ok outD_ok (ass_cons (as_if (at_not (at_val (ae_isi .lst (ae_var 0) rfl bl.isinstance rfl bl.list boot_listT))) (ass_one (as_ret ae_bl)) ass_nil) (ass_cons (as_set (i := 1) sc_is_path.nd rfl (.inl rfl) (ae_dnew true)) (ass_cons (as_for PassesOwn.leaving rfl (ai_seq (ae_var 0)) (ag_name sc_is_path.nd rfl (.inl rfl)) (ass_cons (as_if (AW.at_ (aw_or (at_not (at_val (ae_call c_is_name ga hr (by decide) rfl (tk_of (takes_of rfl rfl rfl rfl)) (aa_cons (ae_var 2) aa_nil) (fun _ _ _ _ h => (aa_len_cons aa_len_nil) h)))) (aw_or1 (at_din (hu1 hr) (ae_var 2) (ae_var 1))))) (ass_one (as_ret ae_bl)) ass_nil) (ass_one (as_dput (hu1 hr) ae_bl (ae_var 1) (ae_var 2))))) (ass_one (as_ret ae_bl))))) h)), hm, F.kp, hb, .nil, fun _ => .nil⟩
end
/-! is_command -/
abbrev s_is_command : Stmt := top 15
def N_is_command : List Str := ["value"]
theorem sc_is_command : FnScope N_is_command ["value"] (defScope s_is_command) := ⟨rfl, rfl, rfl, by decide +kernel, rfl, by decide +kernel, by decide +kernel⟩
noncomputable def b_is_command : SS → Mem → Rs Fl := (aSeq (aIfS (aOr (aNot (aB (aIsi .tup (aVar 0)))) (aOr (aB (aOp (eqD true) (aCB lenD (aCons (aVar 0) aNil)) (aC (.int 3)))) (aNot (aB (aCall F_is_name [] (aCons (aOp ixD (aVar 0) (aC (.int 0))) aNil)))))) (aRet (aC (.bool false))) aNext) (aSeq (aIfS (aOr (aNot (aB (aIsi .str (aOp ixD (aVar 0) (aC (.int 1)))))) (aNot (aB (aIsi .str (aOp ixD (aVar 0) (aC (.int 2))))))) (aRet (aC (.bool false))) aNext) (aRet (aAndV (aOp (inD false) (aOp ixD (aVar 0) (aC (.int 1))) (aC (.tuple [(.str "keep"), (.str "front"), (.str "back"), (.str "remove")]))) (aOp (inD false) (aOp ixD (aVar 0) (aC (.int 2))) (aC (.tuple [(.str "skip"), (.str "front"), (.str "back")])))))))
noncomputable def F_is_command : List Dt → Mem → Rs Dt := exitF outD 1 b_is_command
section
variable {P : Program} {w : World} {K : PySem.W.Frag} {mg : Str → Option Value} {base : Heap} {cA : Nat → Addr}
theorem cal_is_command (D : DefF K mg "is_command" s_is_command ["value"]) (bl : Blt mg) (g_ABSENT : GC K mg "ABSENT" (.tuple [(.str "skip"), (.str "front"), (.str "back")])) (g_PRESENT : GC K mg "PRESENT" (.tuple [(.str "keep"), (.str "front"), (.str "back"), (.str "remove")])) (c_is_name : CalF P w K mg base cA "is_name" 1 1 [] F_is_name) : CalF P w K mg base cA "is_command" 2 1 [] F_is_command := by
  obtain ⟨f, fd, F, hm, hb⟩ := D
  exact ⟨f, fd, ["value"], [], [], (fund_g F sc_is_command (fun _ _ _ _ => spF_len) (fun cdv A ga outer s H vs Q E hr h => body_ok outD_ok (ass_cons (as_if (AW.at_ (aw_or (at_not (at_val (ae_isi .tup (ae_var 0) rfl bl.isinstance rfl bl.tuple boot_tupleT))) (aw_or (at_cmp (od_ne hr.units) (ae_callB cd_len rfl bl.len boot_len2 (aa_cons (ae_var 0) aa_nil)) ae_int rfl) (aw_or1 (at_not (at_val (ae_call c_is_name ga hr (by decide) rfl (tk_of (takes_of rfl rfl rfl rfl)) (aa_cons (ae_ix (ae_var 0) ae_int) aa_nil) (fun _ _ _ _ h => (aa_len_cons aa_len_nil) h)))))))) (ass_one (as_ret ae_bl)) ass_nil) (ass_cons (as_if (AW.at_ (aw_or (at_not (at_val (ae_isi .str (ae_ix (ae_var 0) ae_int) rfl bl.isinstance rfl bl.str boot_strT))) (aw_or1 (at_not (at_val (ae_isi .str (ae_ix (ae_var 0) ae_int) rfl bl.isinstance rfl bl.str boot_strT)))))) (ass_one (as_ret ae_bl)) ass_nil) (ass_one (as_ret (ae_and (ae_cmp od_in (ae_ix (ae_var 0) ae_int) (ae_gc g_PRESENT rfl) rfl) (ae_one (ae_cmp od_in (ae_ix (ae_var 0) ae_int) (ae_gc g_ABSENT rfl) rfl))))))) h)), hm, F.kp, hb, .nil, fun _ => .nil⟩
end
/-! apply -/
abbrev s_apply : Stmt := top 16
def N_apply : List Str := ["path", "command", "name", "present", "absent", "action", "rest", "other"]
theorem sc_apply : FnScope N_apply ["path", "command"] (defScope s_apply) := ⟨rfl, rfl, rfl, by decide +kernel, rfl, by decide +kernel, by decide +kernel⟩
noncomputable def b_apply : SS → Mem → Rs Fl := (aSeq (aAsg (gTupD 3 (gsCons (gN 2) (gsCons (gN 3) (gsCons (gN 4) gsNil)))) (aVar 1)) (aSeq (aSet 5 (aIf (aB (aOp (inD false) (aVar 2) (aVar 0))) (aVar 3) (aVar 4))) (aSeq (aIfS (aB (aOp (inD false) (aVar 5) (aTup (aCons (aC (.str "keep")) (aCons (aC (.str "skip")) aNil))))) (aRet (aP (aListOf (aVar 0)))) aNext) (aSeq (aSetL none 6 (aLc [7] (aSeqI (aVar 0)) (gN 7) (aB (aOp (eqD true) (aVar 7) (aVar 2))) (aVar 7))) (aSeq (aIfS (aB (aOp (eqD false) (aVar 5) (aC (.str "front")))) (aRet (aOp addD (aP (aLst (aCons (aVar 2) aNil))) (aVar 6))) aNext) (aSeq (aIfS (aB (aOp (eqD false) (aVar 5) (aC (.str "back")))) (aRet (aOp addD (aVar 6) (aP (aLst (aCons (aVar 2) aNil))))) aNext) (aRet (aVar 6))))))))
noncomputable def F_apply : List Dt → Mem → Rs Dt := exitF outD 8 b_apply
section
variable {P : Program} {w : World} {K : PySem.W.Frag} {mg : Str → Option Value} {base : Heap} {cA : Nat → Addr}
theorem cal_apply (D : DefF K mg "apply" s_apply ["path", "command"]) (bl : Blt mg)  : CalF P w K mg base cA "apply" 1 2 [] F_apply := by
  obtain ⟨f, fd, F, hm, hb⟩ := D
  exact ⟨f, fd, ["path", "command"], [], [], (fund_g F sc_apply (fun _ _ _ _ => spF_len) (fun cdv A ga outer s H vs Q E hr h => body_ok outD_ok (ass_cons (as_asg (ae_var 1) (ag_tup 3 rfl (ags_cons (ag_name sc_apply.nd rfl (.inr rfl)) (ags_cons (ag_name sc_apply.nd rfl (.inl rfl)) (ags_cons (ag_name sc_apply.nd rfl (.inl rfl)) ags_nil))))) (ass_cons (as_set (i := 5) sc_apply.nd rfl (.inl rfl) (ae_ifExp (at_cmp od_in (ae_var 2) (ae_var 0) rfl) (ae_var 3) (ae_var 4))) (ass_cons (as_if (at_cmp od_in (ae_var 5) (ae_tup (aa_cons ae_str (aa_cons ae_str aa_nil))) rfl) (ass_one (as_ret (AL.p (al_list (ae_var 0) rfl bl.list)))) ass_nil) (ass_cons (as_setLc none (i := 6) rfl sc_apply.nd rfl rfl (sw_true rfl rfl rfl (by decide +kernel)) (ai_seq (ae_var 0)) (blkOk_by (own := [("other", 7)]) (N := N_apply) (sc := defScope s_apply) (by decide +kernel)) (fun _ _ _ _ _ => (ag_name sc_apply.nd rfl (.inl rfl))) (fun _ _ _ _ _ => (ats_one (at_cmp (od_ne hr.units) (ae_var 7) (ae_var 2) rfl))) (fun _ _ _ _ _ => (ae_var 7))) (ass_cons (as_if (at_cmp (od_eq hr.units) (ae_var 5) ae_str rfl) (ass_one (as_ret (ae_op od_add (AL.p (al_lst (aa_cons (ae_var 2) aa_nil))) (ae_var 6)))) ass_nil) (ass_cons (as_if (at_cmp (od_eq hr.units) (ae_var 5) ae_str rfl) (ass_one (as_ret (ae_op od_add (ae_var 6) (AL.p (al_lst (aa_cons (ae_var 2) aa_nil)))))) ass_nil) (ass_one (as_ret (ae_var 6))))))))) h)), hm, F.kp, hb, .nil, fun _ => .nil⟩
end
/-! _law_tape -/
abbrev s_law_tape : Stmt := top 23
def N_law_tape : List Str := ["_law_cell", "_law_salt", "_law_seed"]
theorem sc_law_tape : FnScope N_law_tape ["_law_cell", "_law_salt"] (defScope s_law_tape) := ⟨rfl, rfl, rfl, by decide +kernel, rfl, by decide +kernel, by decide +kernel⟩
noncomputable def b_law_tape : SS → Mem → Rs Fl := (aSeq (aSet 2 (aOp modD (aOp addD (aOp addD (aOp mulD (aOp modD (aCB absD (aCons (aVar 0) aNil)) (aC (.int 998244353))) (aC (.int 31))) (aOp mulD (aVar 1) (aC (.int 1000003)))) (aC (.int 17))) (aC (.int 998244353)))) (aRet (aNew true (aLst (aCons (aCB max2D (aCons (aC (.int 0)) (aCons (aOp subD (aVar 0) (aOp powD (aC (.int 10)) (aC (.int 18)))) aNil))) (aCons (aVar 2) aNil))))))
noncomputable def F_law_tapeC : List Dt → Mem → Rs Dt := exitF outC 3 b_law_tape
section
variable {P : Program} {w : World} {K : PySem.W.Frag} {mg : Str → Option Value} {base : Heap} {cA : Nat → Addr}
theorem cal_law_tape_C (D : DefF K mg "_law_tape" s_law_tape ["_law_cell", "_law_salt"]) (bl : Blt mg)  : CalF P w K mg base cA "_law_tape" 1 2 [] F_law_tapeC := by
  obtain ⟨f, fd, F, hm, hb⟩ := D
  exact ⟨f, fd, ["_law_cell", "_law_salt"], [], [], (fund_g F sc_law_tape (fun _ _ _ _ => spF_len) (fun cdv A ga outer s H vs Q E hr h => body_ok outC_ok (ass_cons (as_set (i := 2) sc_law_tape.nd rfl (.inl rfl) (ae_op od_mod (ae_op od_add (ae_op od_add (ae_op od_mul (ae_op od_mod (ae_callB cd_abs rfl bl.abs boot_abs2 (aa_cons (ae_var 0) aa_nil)) ae_int) ae_int) (ae_op od_mul (ae_var 1) ae_int)) ae_int) ae_int)) (ass_one (as_ret (AL.new true (al_lst (aa_cons (ae_callB (cd_max2 rfl) rfl bl.max boot_max2 (aa_cons ae_int (aa_cons (ae_op od_sub (ae_var 0) (ae_op od_pow ae_int ae_int)) aa_nil))) (aa_cons (ae_var 2) aa_nil))))))) h)), hm, F.kp, hb, .nil, fun _ => .nil⟩
end
/-! _law_draw -/
abbrev s_law_draw : Stmt := top 24
def N_law_draw : List Str := ["_law_tape_here", "_law_count", "_law_digit"]
theorem sc_law_draw : FnScope N_law_draw ["_law_tape_here", "_law_count"] (defScope s_law_draw) := ⟨rfl, rfl, rfl, by decide +kernel, rfl, by decide +kernel, by decide +kernel⟩
noncomputable def b_law_draw : SS → Mem → Rs Fl := (aSeq (aIfS (aB (aOp gtD (aOp ixD (aVar 0) (aC (.int 0))) (aC (.int 0)))) (aSeq (aSet 2 (aOp modD (aOp ixD (aVar 0) (aC (.int 0))) (aVar 1))) (aSeq (aSetIx (aOp fdivD (aOp ixD (aVar 0) (aC (.int 0))) (aVar 1)) (aVar 0) (aC (.int 0))) (aRet (aVar 2)))) aNext) (aSeq (aSetIx (aOp modD (aOp addD (aOp addD (aOp mulD (aOp ixD (aVar 0) (aC (.int 1))) (aOp ixD (aVar 0) (aC (.int 1)))) (aOp mulD (aC (.int 7)) (aOp ixD (aVar 0) (aC (.int 1))))) (aC (.int 40503))) (aC (.int 998244353))) (aVar 0) (aC (.int 1))) (aRet (aOp modD (aOp fdivD (aOp modD (aOp mulD (aOp ixD (aVar 0) (aC (.int 1))) (aC (.int 16807))) (aC (.int 2147483647))) (aC (.int 64))) (aVar 1)))))
noncomputable def F_law_draw : List Dt → Mem → Rs Dt := exitF outD 3 b_law_draw
section
variable {P : Program} {w : World} {K : PySem.W.Frag} {mg : Str → Option Value} {base : Heap} {cA : Nat → Addr}
theorem cal_law_draw (D : DefF K mg "_law_draw" s_law_draw ["_law_tape_here", "_law_count"]) (bl : Blt mg)  : CalF P w K mg base cA "_law_draw" 1 2 [] F_law_draw := by
  obtain ⟨f, fd, F, hm, hb⟩ := D
  exact ⟨f, fd, ["_law_tape_here", "_law_count"], [], [], (fund_g F sc_law_draw (fun _ _ _ _ => spF_len) (fun cdv A ga outer s H vs Q E hr h => body_ok outD_ok (ass_cons (as_if (at_cmp od_gt (ae_ix (ae_var 0) ae_int) ae_int rfl) (ass_cons (as_set (i := 2) sc_law_draw.nd rfl (.inl rfl) (ae_op od_mod (ae_ix (ae_var 0) ae_int) (ae_var 1))) (ass_cons (as_setIx (ae_op od_fdiv (ae_ix (ae_var 0) ae_int) (ae_var 1)) (ae_var 0) ae_int) (ass_one (as_ret (ae_var 2))))) ass_nil) (ass_cons (as_setIx (ae_op od_mod (ae_op od_add (ae_op od_add (ae_op od_mul (ae_ix (ae_var 0) ae_int) (ae_ix (ae_var 0) ae_int)) (ae_op od_mul ae_int (ae_ix (ae_var 0) ae_int))) ae_int) ae_int) (ae_var 0) ae_int) (ass_one (as_ret (ae_op od_mod (ae_op od_fdiv (ae_op od_mod (ae_op od_mul (ae_ix (ae_var 0) ae_int) ae_int) ae_int) ae_int) (ae_var 1)))))) h)), hm, F.kp, hb, .nil, fun _ => .nil⟩
end
/-! _law_name -/
abbrev s_law_name : Stmt := top 26
def N_law_name : List Str := ["_law_tape_here", "_law_chars", "_law_size", "_law_k"]
theorem sc_law_name : FnScope N_law_name ["_law_tape_here"] (defScope s_law_name) := ⟨rfl, rfl, rfl, by decide +kernel, rfl, by decide +kernel, by decide +kernel⟩
noncomputable def b_law_name : SS → Mem → Rs Fl := (aSeq (aSet 1 (aC (.str "abcdefghijklmnopqrstuvwxyz0123456789./_"))) (aSeq (aSet 2 (aOp ixD (aP (aLst (aCons (aC (.int 1)) (aCons (aC (.int 1)) (aCons (aC (.int 2)) (aCons (aC (.int 3)) (aCons (aOp addD (aC (.int 1)) (aCall F_law_draw [] (aCons (aVar 0) (aCons (aC (.int 12)) aNil)))) (aCons (aC (.int 12)) aNil)))))))) (aCall F_law_draw [] (aCons (aVar 0) (aCons (aC (.int 6)) aNil))))) (aRet (aJoin (aC (.str "")) (aP (aLc [3] (aRange1 (aVar 2)) (gN 3) aYes (aOp ixD (aVar 1) (aCall F_law_draw [] (aCons (aVar 0) (aCons (aC (.int 39)) aNil))))))))))
noncomputable def F_law_name : List Dt → Mem → Rs Dt := exitF outD 4 b_law_name
section
variable {P : Program} {w : World} {K : PySem.W.Frag} {mg : Str → Option Value} {base : Heap} {cA : Nat → Addr}
theorem cal_law_name (D : DefF K mg "_law_name" s_law_name ["_law_tape_here"]) (bl : Blt mg) (c_law_draw : CalF P w K mg base cA "_law_draw" 1 2 [] F_law_draw) : CalF P w K mg base cA "_law_name" 2 1 [] F_law_name := by
  obtain ⟨f, fd, F, hm, hb⟩ := D
  exact ⟨f, fd, ["_law_tape_here"], [], [], (fund_g F sc_law_name (fun _ _ _ _ => spF_len) (fun cdv A ga outer s H vs Q E hr h => body_ok outD_ok (ass_cons (as_set (i := 1) sc_law_name.nd rfl (.inr rfl) ae_str) (ass_cons (as_set (i := 2) sc_law_name.nd rfl (.inl rfl) (ae_ix (AL.p (al_lst (aa_cons ae_int (aa_cons ae_int (aa_cons ae_int (aa_cons ae_int (aa_cons (ae_op od_add ae_int (ae_call c_law_draw ga hr (by decide) rfl (tk_of (takes_of rfl rfl rfl rfl)) (aa_cons (ae_var 0) (aa_cons ae_int aa_nil)) (fun _ _ _ _ h => (aa_len_cons (aa_len_cons aa_len_nil)) h))) (aa_cons ae_int aa_nil)))))))) (ae_call c_law_draw ga hr (by decide) rfl (tk_of (takes_of rfl rfl rfl rfl)) (aa_cons (ae_var 0) (aa_cons ae_int aa_nil)) (fun _ _ _ _ h => (aa_len_cons (aa_len_cons aa_len_nil)) h)))) (ass_one (as_ret (ae_join ae_str (AL.p (al_lc rfl sc_law_name.nd (ai_range1 rfl bl.range (ae_var 2)) (blkOk_by (own := [("_law_k", 3)]) (N := N_law_name) (sc := defScope s_law_name) (by decide +kernel)) (fun _ _ _ _ _ => (ag_name sc_law_name.nd rfl (.inl rfl))) (fun _ _ _ _ _ => ats_nil) (fun _ _ _ _ _ => (ae_ix (ae_var 1) (ae_call c_law_draw ga hr (by decide) rfl tk_0 (aa_cons (ae_var 0) (aa_cons ae_int aa_nil)) (fun _ _ _ _ h => (aa_len_cons (aa_len_cons aa_len_nil)) h))))))))))) h)), hm, F.kp, hb, .nil, fun _ => .nil⟩
end
/-! _law_names -/
abbrev s_law_names : Stmt := top 27
def N_law_names : List Str := ["_law_tape_here", "_law_count", "_law_found", "_law_k", "_law_name_here", "_law_base", "_law_at", "_law_near"]
theorem sc_law_names : FnScope N_law_names ["_law_tape_here", "_law_count"] (defScope s_law_names) := ⟨rfl, rfl, rfl, by decide +kernel, rfl, by decide +kernel, by decide +kernel⟩
noncomputable def b_law_names : SS → Mem → Rs Fl := (aSeq (aSet 2 (aNew true (aLst (aCons (aCall F_law_name [] (aCons (aVar 0) aNil)) aNil)))) (aSeq (aFor (aRange1 (aOp subD (aVar 1) (aC (.int 1)))) (gN 3) (aSeq (aSet 4 (aCall F_law_name [] (aCons (aVar 0) aNil))) (aSeq (aIfS (aB (aOp (eqD false) (aCall F_law_draw [] (aCons (aVar 0) (aCons (aC (.int 3)) aNil))) (aC (.int 0)))) (aSeq (aSet 5 (aOp ixD (aVar 2) (aCall F_law_draw [] (aCons (aVar 0) (aCons (aCB lenD (aCons (aVar 2) aNil)) aNil))))) (aSeq (aSet 6 (aCall F_law_draw [] (aCons (aVar 0) (aCons (aCB lenD (aCons (aVar 5) aNil)) aNil)))) (aSeq (aSet 7 (aP (aLst (aCons (aOp addD (aOp addD (aSl (aVar 5) aNone (aSome (aVar 6))) (aSl (aVar 4) aNone (aSome (aC (.int 1))))) (aSl (aVar 5) (aSome (aOp addD (aVar 6) (aC (.int 1)))) aNone)) (aCons (aSl (aOp addD (aVar 5) (aVar 4)) aNone (aSome (aC (.int 12)))) aNil))))) (aSet 4 (aOp ixD (aOp addD (aVar 7) (aP (aLst (aCons (aOp addD (aSl (aVar 5) aNone (aSome (aNeg (aC (.int 1))))) (aSl (aVar 4) aNone (aSome (aC (.int 1))))) (aCons (aOp addD (aSl (aVar 4) aNone (aSome (aC (.int 1)))) (aSl (aVar 5) aNone (aSome (aC (.int 11))))) aNil))))) (aCall F_law_draw [] (aCons (aVar 0) (aCons (aC (.int 4)) aNil)))))))) aNext) (aIfS (aB (aOp (inD true) (aVar 4) (aVar 2))) (aDrop (aML appendD (aVar 2) (aCons (aVar 4) aNil))) aNext)))) (aRet (aVar 2))))
noncomputable def F_law_names : List Dt → Mem → Rs Dt := exitF outD 8 b_law_names
section
variable {P : Program} {w : World} {K : PySem.W.Frag} {mg : Str → Option Value} {base : Heap} {cA : Nat → Addr}
theorem cal_law_names (D : DefF K mg "_law_names" s_law_names ["_law_tape_here", "_law_count"]) (bl : Blt mg) (c_law_draw : CalF P w K mg base cA "_law_draw" 1 2 [] F_law_draw) (c_law_name : CalF P w K mg base cA "_law_name" 2 1 [] F_law_name) : CalF P w K mg base cA "_law_names" 3 2 [] F_law_names := by
  obtain ⟨f, fd, F, hm, hb⟩ := D
  exact ⟨f, fd, ["_law_tape_here", "_law_count"], [], [], (fund_g F sc_law_names (fun _ _ _ _ => spF_len) (fun cdv A ga outer s H vs Q E hr h => body_ok outD_ok (ass_cons (as_set (i := 2) sc_law_names.nd rfl (.inl rfl) (AL.new true (al_lst (aa_cons (ae_call c_law_name ga hr (by decide) rfl (tk_of (takes_of rfl rfl rfl rfl)) (aa_cons (ae_var 0) aa_nil) (fun _ _ _ _ h => (aa_len_cons aa_len_nil) h)) aa_nil)))) (ass_cons (as_for PassesOwn.leaving rfl (ai_range1 rfl bl.range (ae_op od_sub (ae_var 1) ae_int)) (ag_name sc_law_names.nd rfl (.inl rfl)) (ass_cons (as_set (i := 4) sc_law_names.nd rfl (.inl rfl) (ae_call c_law_name ga hr (by decide) rfl (tk_of (takes_of rfl rfl rfl rfl)) (aa_cons (ae_var 0) aa_nil) (fun _ _ _ _ h => (aa_len_cons aa_len_nil) h))) (ass_cons (as_if (at_cmp (od_eq hr.units) (ae_call c_law_draw ga hr (by decide) rfl (tk_of (takes_of rfl rfl rfl rfl)) (aa_cons (ae_var 0) (aa_cons ae_int aa_nil)) (fun _ _ _ _ h => (aa_len_cons (aa_len_cons aa_len_nil)) h)) ae_int rfl) (ass_cons (as_set (i := 5) sc_law_names.nd rfl (.inl rfl) (ae_ix (ae_var 2) (ae_call c_law_draw ga hr (by decide) rfl (tk_of (takes_of rfl rfl rfl rfl)) (aa_cons (ae_var 0) (aa_cons (ae_callB cd_len rfl bl.len boot_len2 (aa_cons (ae_var 2) aa_nil)) aa_nil)) (fun _ _ _ _ h => (aa_len_cons (aa_len_cons aa_len_nil)) h)))) (ass_cons (as_set (i := 6) sc_law_names.nd rfl (.inl rfl) (ae_call c_law_draw ga hr (by decide) rfl (tk_of (takes_of rfl rfl rfl rfl)) (aa_cons (ae_var 0) (aa_cons (ae_callB cd_len rfl bl.len boot_len2 (aa_cons (ae_var 5) aa_nil)) aa_nil)) (fun _ _ _ _ h => (aa_len_cons (aa_len_cons aa_len_nil)) h))) (ass_cons (as_set (i := 7) sc_law_names.nd rfl (.inl rfl) (AL.p (al_lst (aa_cons (ae_op od_add (ae_op od_add (ae_sl (ae_var 5) ao_none (ao_some (ae_var 6))) (ae_sl (ae_var 4) ao_none (ao_some ae_int))) (ae_sl (ae_var 5) (ao_some (ae_op od_add (ae_var 6) ae_int)) ao_none)) (aa_cons (ae_sl (ae_op od_add (ae_var 5) (ae_var 4)) ao_none (ao_some ae_int)) aa_nil))))) (ass_one (as_set (i := 4) sc_law_names.nd rfl (.inl rfl) (ae_ix (ae_op od_add (ae_var 7) (AL.p (al_lst (aa_cons (ae_op od_add (ae_sl (ae_var 5) ao_none (ao_some (ae_neg ae_int))) (ae_sl (ae_var 4) ao_none (ao_some ae_int))) (aa_cons (ae_op od_add (ae_sl (ae_var 4) ao_none (ao_some ae_int)) (ae_sl (ae_var 5) ao_none (ao_some ae_int))) aa_nil))))) (ae_call c_law_draw ga hr (by decide) rfl (tk_of (takes_of rfl rfl rfl rfl)) (aa_cons (ae_var 0) (aa_cons ae_int aa_nil)) (fun _ _ _ _ h => (aa_len_cons (aa_len_cons aa_len_nil)) h)))))))) ass_nil) (ass_one (as_if (at_cmp od_notIn (ae_var 4) (ae_var 2) rfl) (ass_one (as_expr (ae_ml PySem.F.slot_list_append PySem.F.type_list_append md_append (ae_var 2) (aa_cons (ae_var 4) aa_nil)))) ass_nil))))) (ass_one (as_ret (ae_var 2))))) h)), hm, F.kp, hb, .nil, fun _ => .nil⟩
end
/-! _law_script -/
abbrev s_law_script : Stmt := top 28
def N_law_script : List Str := ["_law_tape_here", "_law_names_here", "_law_count", "_law_found", "_law_k", "_law_name_here", "_law_if_in"]
theorem sc_law_script : FnScope N_law_script ["_law_tape_here", "_law_names_here", "_law_count"] (defScope s_law_script) := ⟨rfl, rfl, rfl, by decide +kernel, rfl, by decide +kernel, by decide +kernel⟩
noncomputable def b_law_script : SS → Mem → Rs Fl := (aSeq (aSet 3 (aNew true (aLst aNil))) (aSeq (aFor (aRange1 (aVar 2)) (gN 4) (aSeq (aSet 5 (aOp ixD (aVar 1) (aCall F_law_draw [] (aCons (aVar 0) (aCons (aCB lenD (aCons (aVar 1) aNil)) aNil))))) (aSeq (aSet 6 (aOp ixD (aP (aLst (aCons (aC (.str "keep")) (aCons (aC (.str "front")) (aCons (aC (.str "back")) (aCons (aC (.str "remove")) aNil)))))) (aCall F_law_draw [] (aCons (aVar 0) (aCons (aC (.int 4)) aNil))))) (aDrop (aML appendD (aVar 3) (aCons (aTup (aCons (aVar 5) (aCons (aVar 6) (aCons (aOp ixD (aP (aLst (aCons (aC (.str "skip")) (aCons (aC (.str "front")) (aCons (aC (.str "back")) aNil))))) (aCall F_law_draw [] (aCons (aVar 0) (aCons (aC (.int 3)) aNil)))) aNil)))) aNil)))))) (aRet (aVar 3))))
noncomputable def F_law_script : List Dt → Mem → Rs Dt := exitF outD 7 b_law_script
section
variable {P : Program} {w : World} {K : PySem.W.Frag} {mg : Str → Option Value} {base : Heap} {cA : Nat → Addr}
theorem cal_law_script (D : DefF K mg "_law_script" s_law_script ["_law_tape_here", "_law_names_here", "_law_count"]) (bl : Blt mg) (c_law_draw : CalF P w K mg base cA "_law_draw" 1 2 [] F_law_draw) : CalF P w K mg base cA "_law_script" 2 3 [] F_law_script := by
  obtain ⟨f, fd, F, hm, hb⟩ := D
  exact ⟨f, fd, ["_law_tape_here", "_law_names_here", "_law_count"], [], [], (fund_g F sc_law_script (fun _ _ _ _ => spF_len) (fun cdv A ga outer s H vs Q E hr h => body_ok outD_ok (ass_cons (as_set (i := 3) sc_law_script.nd rfl (.inl rfl) (AL.new true (al_lst aa_nil))) (ass_cons (as_for PassesOwn.leaving rfl (ai_range1 rfl bl.range (ae_var 2)) (ag_name sc_law_script.nd rfl (.inl rfl)) (ass_cons (as_set (i := 5) sc_law_script.nd rfl (.inl rfl) (ae_ix (ae_var 1) (ae_call c_law_draw ga hr (by decide) rfl (tk_of (takes_of rfl rfl rfl rfl)) (aa_cons (ae_var 0) (aa_cons (ae_callB cd_len rfl bl.len boot_len2 (aa_cons (ae_var 1) aa_nil)) aa_nil)) (fun _ _ _ _ h => (aa_len_cons (aa_len_cons aa_len_nil)) h)))) (ass_cons (as_set (i := 6) sc_law_script.nd rfl (.inl rfl) (ae_ix (AL.p (al_lst (aa_cons ae_str (aa_cons ae_str (aa_cons ae_str (aa_cons ae_str aa_nil)))))) (ae_call c_law_draw ga hr (by decide) rfl (tk_of (takes_of rfl rfl rfl rfl)) (aa_cons (ae_var 0) (aa_cons ae_int aa_nil)) (fun _ _ _ _ h => (aa_len_cons (aa_len_cons aa_len_nil)) h)))) (ass_one (as_expr (ae_ml PySem.F.slot_list_append PySem.F.type_list_append md_append (ae_var 3) (aa_cons (ae_tup (aa_cons (ae_var 5) (aa_cons (ae_var 6) (aa_cons (ae_ix (AL.p (al_lst (aa_cons ae_str (aa_cons ae_str (aa_cons ae_str aa_nil))))) (ae_call c_law_draw ga hr (by decide) rfl (tk_of (takes_of rfl rfl rfl rfl)) (aa_cons (ae_var 0) (aa_cons ae_int aa_nil)) (fun _ _ _ _ h => (aa_len_cons (aa_len_cons aa_len_nil)) h))) aa_nil)))) aa_nil))))))) (ass_one (as_ret (ae_var 3))))) h)), hm, F.kp, hb, .nil, fun _ => .nil⟩
end
noncomputable def F_law_scriptC : List Dt → Mem → Rs Dt := exitF outC 7 b_law_script
section
variable {P : Program} {w : World} {K : PySem.W.Frag} {mg : Str → Option Value} {base : Heap} {cA : Nat → Addr}
theorem cal_law_script_C (D : DefF K mg "_law_script" s_law_script ["_law_tape_here", "_law_names_here", "_law_count"]) (bl : Blt mg) (c_law_draw : CalF P w K mg base cA "_law_draw" 1 2 [] F_law_draw) : CalF P w K mg base cA "_law_script" 2 3 [] F_law_scriptC := by
  obtain ⟨f, fd, F, hm, hb⟩ := D
  exact ⟨f, fd, ["_law_tape_here", "_law_names_here", "_law_count"], [], [], (fund_g F sc_law_script (fun _ _ _ _ => spF_len) (fun cdv A ga outer s H vs Q E hr h => body_ok outC_ok (ass_cons (as_set (i := 3) sc_law_script.nd rfl (.inl rfl) (AL.new true (al_lst aa_nil))) (ass_cons (as_for PassesOwn.leaving rfl (ai_range1 rfl bl.range (ae_var 2)) (ag_name sc_law_script.nd rfl (.inl rfl)) (ass_cons (as_set (i := 5) sc_law_script.nd rfl (.inl rfl) (ae_ix (ae_var 1) (ae_call c_law_draw ga hr (by decide) rfl (tk_of (takes_of rfl rfl rfl rfl)) (aa_cons (ae_var 0) (aa_cons (ae_callB cd_len rfl bl.len boot_len2 (aa_cons (ae_var 1) aa_nil)) aa_nil)) (fun _ _ _ _ h => (aa_len_cons (aa_len_cons aa_len_nil)) h)))) (ass_cons (as_set (i := 6) sc_law_script.nd rfl (.inl rfl) (ae_ix (AL.p (al_lst (aa_cons ae_str (aa_cons ae_str (aa_cons ae_str (aa_cons ae_str aa_nil)))))) (ae_call c_law_draw ga hr (by decide) rfl (tk_of (takes_of rfl rfl rfl rfl)) (aa_cons (ae_var 0) (aa_cons ae_int aa_nil)) (fun _ _ _ _ h => (aa_len_cons (aa_len_cons aa_len_nil)) h)))) (ass_one (as_expr (ae_ml PySem.F.slot_list_append PySem.F.type_list_append md_append (ae_var 3) (aa_cons (ae_tup (aa_cons (ae_var 5) (aa_cons (ae_var 6) (aa_cons (ae_ix (AL.p (al_lst (aa_cons ae_str (aa_cons ae_str (aa_cons ae_str aa_nil))))) (ae_call c_law_draw ga hr (by decide) rfl (tk_of (takes_of rfl rfl rfl rfl)) (aa_cons (ae_var 0) (aa_cons ae_int aa_nil)) (fun _ _ _ _ h => (aa_len_cons (aa_len_cons aa_len_nil)) h))) aa_nil)))) aa_nil))))))) (ass_one (as_ret (ae_var 3))))) h)), hm, F.kp, hb, .nil, fun _ => .nil⟩
end
/-! _law_path -/
abbrev s_law_path : Stmt := top 29
def N_law_path : List Str := ["_law_tape_here", "_law_names_here", "_law_left", "_law_name_here", "_law_k"]
theorem sc_law_path : FnScope N_law_path ["_law_tape_here", "_law_names_here"] (defScope s_law_path) := ⟨rfl, rfl, rfl, by decide +kernel, rfl, by decide +kernel, by decide +kernel⟩
noncomputable def b_law_path : SS → Mem → Rs Fl := (aSeq (aSet 2 (aNew true (aLc [3] (aSeqI (aVar 1)) (gN 3) (aB (aOp gtD (aCall F_law_draw [] (aCons (aVar 0) (aCons (aC (.int 3)) aNil))) (aC (.int 0)))) (aVar 3)))) (aRet (aP (aLc [4] (aRange1 (aCB lenD (aCons (aVar 2) aNil))) (gN 4) aYes (aML popAtD (aVar 2) (aCons (aCall F_law_draw [] (aCons (aVar 0) (aCons (aCB lenD (aCons (aVar 2) aNil)) aNil))) aNil))))))
noncomputable def F_law_path : List Dt → Mem → Rs Dt := exitF outD 5 b_law_path
section
variable {P : Program} {w : World} {K : PySem.W.Frag} {mg : Str → Option Value} {base : Heap} {cA : Nat → Addr}
theorem cal_law_path (D : DefF K mg "_law_path" s_law_path ["_law_tape_here", "_law_names_here"]) (bl : Blt mg) (c_law_draw : CalF P w K mg base cA "_law_draw" 1 2 [] F_law_draw) : CalF P w K mg base cA "_law_path" 2 2 [] F_law_path := by
  obtain ⟨f, fd, F, hm, hb⟩ := D
  exact ⟨f, fd, ["_law_tape_here", "_law_names_here"], [], [], (fund_g F sc_law_path (fun _ _ _ _ => spF_len) (fun cdv A ga outer s H vs Q E hr h => body_ok outD_ok (ass_cons (as_set (i := 2) sc_law_path.nd rfl (.inr rfl) (AL.new true (al_lc rfl sc_law_path.nd (ai_seq (ae_var 1)) (blkOk_by (own := [("_law_name_here", 3)]) (N := N_law_path) (sc := defScope s_law_path) (by decide +kernel)) (fun _ _ _ _ _ => (ag_name sc_law_path.nd rfl (.inl rfl))) (fun _ _ _ _ _ => (ats_one (at_cmp od_gt (ae_call c_law_draw ga hr (by decide) rfl tk_0 (aa_cons (ae_var 0) (aa_cons ae_int aa_nil)) (fun _ _ _ _ h => (aa_len_cons (aa_len_cons aa_len_nil)) h)) ae_int rfl))) (fun _ _ _ _ _ => (ae_var 3))))) (ass_one (as_ret (AL.p (al_lc rfl sc_law_path.nd (ai_range1 rfl bl.range (ae_callB cd_len rfl bl.len boot_len2 (aa_cons (ae_var 2) aa_nil))) (blkOk_by (own := [("_law_k", 4)]) (N := N_law_path) (sc := defScope s_law_path) (by decide +kernel)) (fun _ _ _ _ _ => (ag_name sc_law_path.nd rfl (.inl rfl))) (fun _ _ _ _ _ => ats_nil) (fun _ _ _ _ _ => (ae_ml PySem.F.slot_list_pop PySem.F.type_list_pop md_popAt (ae_var 2) (aa_cons (ae_call c_law_draw ga hr (by decide) rfl tk_0 (aa_cons (ae_var 0) (aa_cons (ae_callB cd_len rfl bl.len boot_len2 (aa_cons (ae_var 2) aa_nil)) aa_nil)) (fun _ _ _ _ h => (aa_len_cons (aa_len_cons aa_len_nil)) h)) aa_nil)))))))) h)), hm, F.kp, hb, .nil, fun _ => .nil⟩
end
/-! _law_run -/
abbrev s_law_run : Stmt := top 30
def N_law_run : List Str := ["_law_path_here", "_law_script_here", "_law_current", "_law_name_here", "_law_if_in", "_law_if_out", "_law_action", "_law_other"]
theorem sc_law_run : FnScope N_law_run ["_law_path_here", "_law_script_here"] (defScope s_law_run) := ⟨rfl, rfl, rfl, by decide +kernel, rfl, by decide +kernel, by decide +kernel⟩
noncomputable def b_law_run : SS → Mem → Rs Fl := (aSeq (aSet 2 (aP (aListOf (aVar 0)))) (aSeq (aFor (aSeqI (aVar 1)) (gTupD 3 (gsCons (gN 3) (gsCons (gN 4) (gsCons (gN 5) gsNil)))) (aSeq (aSet 6 (aVar 5)) (aSeq (aIfS (aB (aOp (inD false) (aVar 3) (aVar 2))) (aSet 6 (aVar 4)) aNext) (aSeq (aIfS (aB (aOp (inD false) (aVar 6) (aTup (aCons (aC (.str "front")) (aCons (aC (.str "back")) (aCons (aC (.str "remove")) aNil)))))) (aSetL none 2 (aLc [7] (aSeqI (aVar 2)) (gN 7) (aB (aOp (eqD true) (aVar 7) (aVar 3))) (aVar 7))) aNext) (aSeq (aIfS (aB (aOp (eqD false) (aVar 6) (aC (.str "front")))) (aSet 2 (aOp addD (aP (aLst (aCons (aVar 3) aNil))) (aVar 2))) aNext) (aIfS (aB (aOp (eqD false) (aVar 6) (aC (.str "back")))) (aSet 2 (aOp addD (aVar 2) (aP (aLst (aCons (aVar 3) aNil))))) aNext)))))) (aRet (aVar 2))))
noncomputable def F_law_run : List Dt → Mem → Rs Dt := exitF outD 8 b_law_run
section
variable {P : Program} {w : World} {K : PySem.W.Frag} {mg : Str → Option Value} {base : Heap} {cA : Nat → Addr}
theorem cal_law_run (D : DefF K mg "_law_run" s_law_run ["_law_path_here", "_law_script_here"]) (bl : Blt mg)  : CalF P w K mg base cA "_law_run" 1 2 [] F_law_run := by
  obtain ⟨f, fd, F, hm, hb⟩ := D
  exact ⟨f, fd, ["_law_path_here", "_law_script_here"], [], [], (fund_g F sc_law_run (fun _ _ _ _ => spF_len) (fun cdv A ga outer s H vs Q E hr h => body_ok outD_ok (ass_cons (as_set (i := 2) sc_law_run.nd rfl (.inl rfl) (AL.p (al_list (ae_var 0) rfl bl.list))) (ass_cons (as_for PassesOwn.leaving rfl (ai_seq (ae_var 1)) (ag_tup 3 rfl (ags_cons (ag_name sc_law_run.nd rfl (.inr rfl)) (ags_cons (ag_name sc_law_run.nd rfl (.inl rfl)) (ags_cons (ag_name sc_law_run.nd rfl (.inl rfl)) ags_nil)))) (ass_cons (as_set (i := 6) sc_law_run.nd rfl (.inl rfl) (ae_var 5)) (ass_cons (as_if (at_cmp od_in (ae_var 3) (ae_var 2) rfl) (ass_one (as_set (i := 6) sc_law_run.nd rfl (.inl rfl) (ae_var 4))) ass_nil) (ass_cons (as_if (at_cmp od_in (ae_var 6) (ae_tup (aa_cons ae_str (aa_cons ae_str (aa_cons ae_str aa_nil)))) rfl) (ass_one (as_setLc none (i := 2) rfl sc_law_run.nd rfl rfl (sw_true rfl rfl rfl (by decide +kernel)) (ai_seq (ae_var 2)) (blkOk_by (own := [("_law_other", 7)]) (N := N_law_run) (sc := defScope s_law_run) (by decide +kernel)) (fun _ _ _ _ _ => (ag_name sc_law_run.nd rfl (.inl rfl))) (fun _ _ _ _ _ => (ats_one (at_cmp (od_ne hr.units) (ae_var 7) (ae_var 3) rfl))) (fun _ _ _ _ _ => (ae_var 7)))) ass_nil) (ass_cons (as_if (at_cmp (od_eq hr.units) (ae_var 6) ae_str rfl) (ass_one (as_set (i := 2) sc_law_run.nd rfl (.inl rfl) (ae_op od_add (AL.p (al_lst (aa_cons (ae_var 3) aa_nil))) (ae_var 2)))) ass_nil) (ass_one (as_if (at_cmp (od_eq hr.units) (ae_var 6) ae_str rfl) (ass_one (as_set (i := 2) sc_law_run.nd rfl (.inl rfl) (ae_op od_add (ae_var 2) (AL.p (al_lst (aa_cons (ae_var 3) aa_nil)))))) ass_nil))))))) (ass_one (as_ret (ae_var 2))))) h)), hm, F.kp, hb, .nil, fun _ => .nil⟩
end
/-! _law_equal -/
abbrev s_law_equal : Stmt := top 31
def N_law_equal : List Str := ["_law_actual", "_law_expected"]
theorem sc_law_equal : FnScope N_law_equal ["_law_actual", "_law_expected"] (defScope s_law_equal) := ⟨rfl, rfl, rfl, by decide +kernel, rfl, by decide +kernel, by decide +kernel⟩
noncomputable def b_law_equal : SS → Mem → Rs Fl := (aRet (aOp (eqD false) (aCB reprD (aCons (aVar 0) aNil)) (aCB reprD (aCons (aVar 1) aNil))))
noncomputable def F_law_equal : List Dt → Mem → Rs Dt := exitF outD 2 b_law_equal
section
variable {P : Program} {w : World} {K : PySem.W.Frag} {mg : Str → Option Value} {base : Heap} {cA : Nat → Addr}
theorem cal_law_equal (D : DefF K mg "_law_equal" s_law_equal ["_law_actual", "_law_expected"]) (bl : Blt mg)  : CalF P w K mg base cA "_law_equal" 1 2 [] F_law_equal := by
  obtain ⟨f, fd, F, hm, hb⟩ := D
  exact ⟨f, fd, ["_law_actual", "_law_expected"], [], [], (fund_g F sc_law_equal (fun _ _ _ _ => spF_len) (fun cdv A ga outer s H vs Q E hr h => body_ok outD_ok (ass_one (as_ret (ae_cmp (od_eq hr.units) (ae_callB (cd_repr ga (hr80 hr)) rfl bl.repr boot_repr2 (aa_cons (ae_var 0) aa_nil)) (ae_callB (cd_repr ga (hr80 hr)) rfl bl.repr boot_repr2 (aa_cons (ae_var 1) aa_nil)) rfl))) h)), hm, F.kp, hb, .nil, fun _ => .nil⟩
end
/-! _law_flat -/
abbrev s_law_flat : Stmt := top 32
def N_law_flat : List Str := ["_law_steps", "_law_found", "_law_some"]
theorem sc_law_flat : FnScope N_law_flat ["_law_steps"] (defScope s_law_flat) := ⟨rfl, rfl, rfl, by decide +kernel, rfl, by decide +kernel, by decide +kernel⟩
noncomputable def b_law_flat : SS → Mem → Rs Fl := (aSeq (aSet 1 (aNew true (aLst aNil))) (aSeq (aFor (aSeqI (aVar 0)) (gN 2) (aDrop (aML extendD (aVar 1) (aCons (aVar 2) aNil)))) (aRet (aVar 1))))
noncomputable def F_law_flat : List Dt → Mem → Rs Dt := exitF outD 3 b_law_flat
section
variable {P : Program} {w : World} {K : PySem.W.Frag} {mg : Str → Option Value} {base : Heap} {cA : Nat → Addr}
theorem cal_law_flat (D : DefF K mg "_law_flat" s_law_flat ["_law_steps"]) (bl : Blt mg)  : CalF P w K mg base cA "_law_flat" 1 1 [] F_law_flat := by
  obtain ⟨f, fd, F, hm, hb⟩ := D
  exact ⟨f, fd, ["_law_steps"], [], [], (fund_g F sc_law_flat (fun _ _ _ _ => spF_len) (fun cdv A ga outer s H vs Q E hr h => body_ok outD_ok (ass_cons (as_set (i := 1) sc_law_flat.nd rfl (.inl rfl) (AL.new true (al_lst aa_nil))) (ass_cons (as_for PassesOwn.leaving rfl (ai_seq (ae_var 0)) (ag_name sc_law_flat.nd rfl (.inl rfl)) (ass_one (as_expr (ae_ml PySem.F.slot_list_extend PySem.F.type_list_extend md_extend (ae_var 1) (aa_cons (ae_var 2) aa_nil))))) (ass_one (as_ret (ae_var 1))))) h)), hm, F.kp, hb, .nil, fun _ => .nil⟩
end
/-! Live.redo -/
abbrev s_Live_redo : Stmt := inClass (top 21) 11
def N_Live_redo : List Str := ["self", "script", "path"]
theorem sc_Live_redo : FnScope N_Live_redo ["self"] (defScope s_Live_redo) := ⟨rfl, rfl, rfl, by decide +kernel, rfl, by decide +kernel, by decide +kernel⟩
noncomputable def b_Live_redo : SS → Mem → Rs Fl := (aSeq (aIfS (aB (aOp (eqD false) (aFld [0] "undone" (aVar 0)) (aP (aLst aNil)))) (aRet (aC (.bool false))) aNext) (aSeq (aAsg (gTupD 2 (gsCons (gN 1) (gsCons (gN 2) gsNil))) (aML popD (aFld [0] "undone" (aVar 0)) aNil)) (aSeq (aDrop (aML appendD (aFld [0] "done" (aVar 0)) (aCons (aTup (aCons (aVar 1) (aCons (aFld [0] "current" (aVar 0)) aNil))) aNil))) (aSeq (aSetF [0] "current" (aVar 0) (aVar 2)) (aRet (aC (.bool true)))))))
noncomputable def F_Live_redo : List Dt → Mem → Rs Dt := exitF outD 3 b_Live_redo
section
variable {P : Program} {w : World} {K : PySem.W.Frag} {mg : Str → Option Value} {base : Heap} {cA : Nat → Addr}
theorem cal_Live_redo {cn : Nat} (D : MetF K cA cn "redo" "Live.redo" s_Live_redo ["self"]) (bl : Blt mg) (n_Live_current : ∀ c ∈ ([0] : List Nat), Cls K (cA c) ∧ NoAttr K (cA c) "current") (n_Live_done : ∀ c ∈ ([0] : List Nat), Cls K (cA c) ∧ NoAttr K (cA c) "done") (n_Live_undone : ∀ c ∈ ([0] : List Nat), Cls K (cA c) ∧ NoAttr K (cA c) "undone") : CalM P w K mg base cA cn "redo" 1 1 [] F_Live_redo := by
  obtain ⟨f, fd, F, hc, hp, hb⟩ := D
  exact ⟨f, fd, ["self"], [], [], (fund_g F sc_Live_redo (fun _ _ _ _ => spF_len) (fun cdv A ga outer s H vs Q E hr h => body_ok outD_ok (ass_cons (as_if (at_cmp (od_eq hr.units) (ae_fld [0] (ae_var 0) n_Live_undone) (AL.p (al_lst aa_nil)) rfl) (ass_one (as_ret ae_bl)) ass_nil) (ass_cons (as_asg (ae_ml0 PySem.F.slot_list_pop PySem.F.type_list_pop md_pop (ae_fld [0] (ae_var 0) n_Live_undone)) (ag_tup 2 rfl (ags_cons (ag_name sc_Live_redo.nd rfl (.inl rfl)) (ags_cons (ag_name sc_Live_redo.nd rfl (.inl rfl)) ags_nil)))) (ass_cons (as_expr (ae_ml PySem.F.slot_list_append PySem.F.type_list_append md_append (ae_fld [0] (ae_var 0) n_Live_done) (aa_cons (ae_tup (aa_cons (ae_var 1) (aa_cons (ae_fld [0] (ae_var 0) n_Live_current) aa_nil))) aa_nil))) (ass_cons (as_fld [0] (ae_var 0) (ae_var 2) n_Live_current) (ass_one (as_ret ae_bl)))))) h)), hc, hp, hb, .nil, fun _ => .nil⟩
end
/-! Live.after -/
abbrev s_Live_after : Stmt := inClass (top 21) 7
def N_Live_after : List Str := ["self", "current", "command", "result"]
theorem sc_Live_after : FnScope N_Live_after ["self", "current", "command"] (defScope s_Live_after) := ⟨rfl, rfl, rfl, by decide +kernel, rfl, by decide +kernel, by decide +kernel⟩
noncomputable def b_Live_after : SS → Mem → Rs Fl := (aSeq (aIfS (aNot (aB (aCall F_is_command [] (aCons (aVar 2) aNil)))) (aRaise 12) aNext) (aSeq (aSet 3 (aCall F_apply [] (aCons (aVar 1) (aCons (aVar 2) aNil)))) (aSeq (aIfS (aB (aOp gtD (aCB lenD (aCons (aVar 3) aNil)) (aFld [0] "most" (aVar 0)))) (aRaise 16) aNext) (aRet (aVar 3)))))
noncomputable def F_Live_after : List Dt → Mem → Rs Dt := exitF outD 4 b_Live_after
section
variable {P : Program} {w : World} {K : PySem.W.Frag} {mg : Str → Option Value} {base : Heap} {cA : Nat → Addr}
theorem cal_Live_after {cn : Nat} (D : MetF K cA cn "after" "Live.after" s_Live_after ["self", "current", "command"]) (bl : Blt mg) (n_Live_most : ∀ c ∈ ([0] : List Nat), Cls K (cA c) ∧ NoAttr K (cA c) "most") (e_PathFull : ExcF K mg cA "PathFull" 16) (c_apply : CalF P w K mg base cA "apply" 1 2 [] F_apply) (c_is_command : CalF P w K mg base cA "is_command" 2 1 [] F_is_command) (e_InvalidCommand : ExcF K mg cA "InvalidCommand" 12) : CalM P w K mg base cA cn "after" 3 3 [] F_Live_after := by
  obtain ⟨f, fd, F, hc, hp, hb⟩ := D
  exact ⟨f, fd, ["self", "current", "command"], [], [], (fund_g F sc_Live_after (fun _ _ _ _ => spF_len) (fun cdv A ga outer s H vs Q E hr h => body_ok outD_ok (ass_cons (as_if (at_not (at_val (ae_call c_is_command ga hr (by decide) rfl (tk_of (takes_of rfl rfl rfl rfl)) (aa_cons (ae_var 2) aa_nil) (fun _ _ _ _ h => (aa_len_cons aa_len_nil) h)))) (ass_one (as_raise rfl (takes_of rfl rfl rfl rfl) e_InvalidCommand rfl)) ass_nil) (ass_cons (as_set (i := 3) sc_Live_after.nd rfl (.inl rfl) (ae_call c_apply ga hr (by decide) rfl (tk_of (takes_of rfl rfl rfl rfl)) (aa_cons (ae_var 1) (aa_cons (ae_var 2) aa_nil)) (fun _ _ _ _ h => (aa_len_cons (aa_len_cons aa_len_nil)) h))) (ass_cons (as_if (at_cmp od_gt (ae_callB cd_len rfl bl.len boot_len2 (aa_cons (ae_var 3) aa_nil)) (ae_fld [0] (ae_var 0) n_Live_most) rfl) (ass_one (as_raise rfl (takes_of rfl rfl rfl rfl) e_PathFull rfl)) ass_nil) (ass_one (as_ret (ae_var 3)))))) h)), hc, hp, hb, .nil, fun _ => .nil⟩
end
/-! Live.do_all -/
abbrev s_Live_do_all : Stmt := inClass (top 21) 9
def N_Live_do_all : List Str := ["self", "script", "result", "command"]
theorem sc_Live_do_all : FnScope N_Live_do_all ["self", "script"] (defScope s_Live_do_all) := ⟨rfl, rfl, rfl, by decide +kernel, rfl, by decide +kernel, by decide +kernel⟩
noncomputable def b_Live_do_all : SS → Mem → Rs Fl := (aSeq (aSet 2 (aFld [0] "current" (aVar 0))) (aSeq (aFor (aSeqI (aVar 1)) (gN 3) (aSet 2 (aMeth 0 "after" F_Live_after [] (aVar 0) (aCons (aVar 2) (aCons (aVar 3) aNil))))) (aSeq (aDrop (aML appendD (aFld [0] "done" (aVar 0)) (aCons (aTup (aCons (aP (aListOf (aVar 1))) (aCons (aFld [0] "current" (aVar 0)) aNil))) aNil))) (aSeq (aSetF [0] "undone" (aVar 0) (aNew false (aLst aNil))) (aSetF [0] "current" (aVar 0) (aVar 2))))))
noncomputable def F_Live_do_all : List Dt → Mem → Rs Dt := exitF outD 4 b_Live_do_all
section
variable {P : Program} {w : World} {K : PySem.W.Frag} {mg : Str → Option Value} {base : Heap} {cA : Nat → Addr}
theorem cal_Live_do_all {cn : Nat} (D : MetF K cA cn "do_all" "Live.do_all" s_Live_do_all ["self", "script"]) (bl : Blt mg) (n_Live_current : ∀ c ∈ ([0] : List Nat), Cls K (cA c) ∧ NoAttr K (cA c) "current") (n_Live_undone : ∀ c ∈ ([0] : List Nat), Cls K (cA c) ∧ NoAttr K (cA c) "undone") (n_Live_done : ∀ c ∈ ([0] : List Nat), Cls K (cA c) ∧ NoAttr K (cA c) "done") (c_Live_after : CalM P w K mg base cA 0 "after" 3 3 [] F_Live_after) : CalM P w K mg base cA cn "do_all" 4 2 [] F_Live_do_all := by
  obtain ⟨f, fd, F, hc, hp, hb⟩ := D
  exact ⟨f, fd, ["self", "script"], [], [], (fund_g F sc_Live_do_all (fun _ _ _ _ => spF_len) (fun cdv A ga outer s H vs Q E hr h => body_ok outD_ok (ass_cons (as_set (i := 2) sc_Live_do_all.nd rfl (.inl rfl) (ae_fld [0] (ae_var 0) n_Live_current)) (ass_cons (as_for PassesOwn.leaving rfl (ai_seq (ae_var 1)) (ag_name sc_Live_do_all.nd rfl (.inl rfl)) (ass_one (as_set (i := 2) sc_Live_do_all.nd rfl (.inl rfl) (ae_meth c_Live_after ga hr (by decide) (tk_of (takes_of rfl rfl rfl rfl)) (ae_var 0) (aa_cons (ae_var 2) (aa_cons (ae_var 3) aa_nil)) (fun _ _ _ _ h => by rw [(aa_len_cons (aa_len_cons aa_len_nil)) h] <;> rfl))))) (ass_cons (as_expr (ae_ml PySem.F.slot_list_append PySem.F.type_list_append md_append (ae_fld [0] (ae_var 0) n_Live_done) (aa_cons (ae_tup (aa_cons (AL.p (al_list (ae_var 1) rfl bl.list)) (aa_cons (ae_fld [0] (ae_var 0) n_Live_current) aa_nil))) aa_nil))) (ass_cons (as_fld [0] (ae_var 0) (AL.new false (al_lst aa_nil)) n_Live_undone) (ass_one (as_fld [0] (ae_var 0) (ae_var 2) n_Live_current)))))) h)), hc, hp, hb, .nil, fun _ => .nil⟩
end
/-! Live.do -/
abbrev s_Live_do : Stmt := inClass (top 21) 8
def N_Live_do : List Str := ["self", "command"]
theorem sc_Live_do : FnScope N_Live_do ["self", "command"] (defScope s_Live_do) := ⟨rfl, rfl, rfl, by decide +kernel, rfl, by decide +kernel, by decide +kernel⟩
noncomputable def b_Live_do : SS → Mem → Rs Fl := (aDrop (aMeth 0 "do_all" F_Live_do_all [] (aVar 0) (aCons (aP (aLst (aCons (aVar 1) aNil))) aNil)))
noncomputable def F_Live_do : List Dt → Mem → Rs Dt := exitF outD 2 b_Live_do
section
variable {P : Program} {w : World} {K : PySem.W.Frag} {mg : Str → Option Value} {base : Heap} {cA : Nat → Addr}
theorem cal_Live_do {cn : Nat} (D : MetF K cA cn "do" "Live.do" s_Live_do ["self", "command"]) (bl : Blt mg) (c_Live_do_all : CalM P w K mg base cA 0 "do_all" 4 2 [] F_Live_do_all) : CalM P w K mg base cA cn "do" 5 2 [] F_Live_do := by
  obtain ⟨f, fd, F, hc, hp, hb⟩ := D
  exact ⟨f, fd, ["self", "command"], [], [], (fund_g F sc_Live_do (fun _ _ _ _ => spF_len) (fun cdv A ga outer s H vs Q E hr h => body_ok outD_ok (ass_one (as_expr (ae_meth c_Live_do_all ga hr (by decide) (tk_of (takes_of rfl rfl rfl rfl)) (ae_var 0) (aa_cons (AL.p (al_lst (aa_cons (ae_var 1) aa_nil))) aa_nil) (fun _ _ _ _ h => by rw [(aa_len_cons aa_len_nil) h] <;> rfl)))) h)), hc, hp, hb, .nil, fun _ => .nil⟩
end
/-! Live.undo -/
abbrev s_Live_undo : Stmt := inClass (top 21) 10
def N_Live_undo : List Str := ["self", "script", "path"]
theorem sc_Live_undo : FnScope N_Live_undo ["self"] (defScope s_Live_undo) := ⟨rfl, rfl, rfl, by decide +kernel, rfl, by decide +kernel, by decide +kernel⟩
noncomputable def b_Live_undo : SS → Mem → Rs Fl := (aSeq (aIfS (aB (aOp (eqD false) (aFld [0] "done" (aVar 0)) (aP (aLst aNil)))) (aRet (aC (.bool false))) aNext) (aSeq (aAsg (gTupD 2 (gsCons (gN 1) (gsCons (gN 2) gsNil))) (aML popD (aFld [0] "done" (aVar 0)) aNil)) (aSeq (aDrop (aML appendD (aFld [0] "undone" (aVar 0)) (aCons (aTup (aCons (aVar 1) (aCons (aFld [0] "current" (aVar 0)) aNil))) aNil))) (aSeq (aSetF [0] "current" (aVar 0) (aVar 2)) (aRet (aC (.bool true)))))))
noncomputable def F_Live_undo : List Dt → Mem → Rs Dt := exitF outD 3 b_Live_undo
section
variable {P : Program} {w : World} {K : PySem.W.Frag} {mg : Str → Option Value} {base : Heap} {cA : Nat → Addr}
theorem cal_Live_undo {cn : Nat} (D : MetF K cA cn "undo" "Live.undo" s_Live_undo ["self"]) (bl : Blt mg) (n_Live_current : ∀ c ∈ ([0] : List Nat), Cls K (cA c) ∧ NoAttr K (cA c) "current") (n_Live_undone : ∀ c ∈ ([0] : List Nat), Cls K (cA c) ∧ NoAttr K (cA c) "undone") (n_Live_done : ∀ c ∈ ([0] : List Nat), Cls K (cA c) ∧ NoAttr K (cA c) "done") : CalM P w K mg base cA cn "undo" 1 1 [] F_Live_undo := by
  obtain ⟨f, fd, F, hc, hp, hb⟩ := D
  exact ⟨f, fd, ["self"], [], [], (fund_g F sc_Live_undo (fun _ _ _ _ => spF_len) (fun cdv A ga outer s H vs Q E hr h => body_ok outD_ok (ass_cons (as_if (at_cmp (od_eq hr.units) (ae_fld [0] (ae_var 0) n_Live_done) (AL.p (al_lst aa_nil)) rfl) (ass_one (as_ret ae_bl)) ass_nil) (ass_cons (as_asg (ae_ml0 PySem.F.slot_list_pop PySem.F.type_list_pop md_pop (ae_fld [0] (ae_var 0) n_Live_done)) (ag_tup 2 rfl (ags_cons (ag_name sc_Live_undo.nd rfl (.inl rfl)) (ags_cons (ag_name sc_Live_undo.nd rfl (.inl rfl)) ags_nil)))) (ass_cons (as_expr (ae_ml PySem.F.slot_list_append PySem.F.type_list_append md_append (ae_fld [0] (ae_var 0) n_Live_undone) (aa_cons (ae_tup (aa_cons (ae_var 1) (aa_cons (ae_fld [0] (ae_var 0) n_Live_current) aa_nil))) aa_nil))) (ass_cons (as_fld [0] (ae_var 0) (ae_var 2) n_Live_current) (ass_one (as_ret ae_bl)))))) h)), hc, hp, hb, .nil, fun _ => .nil⟩
end
/-! _law_deed -/
abbrev s_law_deed : Stmt := top 33
def N_law_deed : List Str := ["_law_tape_here", "_law_live", "_law_state", "_law_names_here", "_law_shared", "_law_way", "_law_some", "_law_expected"]
theorem sc_law_deed : FnScope N_law_deed ["_law_tape_here", "_law_live", "_law_state", "_law_names_here", "_law_shared"] (defScope s_law_deed) := ⟨rfl, rfl, rfl, by decide +kernel, rfl, by decide +kernel, by decide +kernel⟩
noncomputable def b_law_deed : SS → Mem → Rs Fl := (aSeq (aSet 5 (aCall F_law_draw [] (aCons (aVar 0) (aCons (aC (.int 6)) aNil)))) (aSeq (aIfS (aB (aOp ltD (aVar 5) (aC (.int 4)))) (aSeq (aSet 6 (aP (aListOf (aVar 4)))) (aSeq (aIfS (aB (aOp ltD (aVar 5) (aC (.int 2)))) (aSeq (aSet 6 (aCall F_law_script [] (aCons (aVar 0) (aCons (aVar 3) (aCons (aC (.int 1)) aNil))))) (aDrop (aMeth 0 "do" F_Live_do [] (aVar 1) (aCons (aOp ixD (aVar 6) (aC (.int 0))) aNil)))) (aDrop (aMeth 0 "do_all" F_Live_do_all [] (aVar 1) (aCons (aVar 4) aNil)))) (aSeq (aSetIx (aOp addD (aSl (aOp ixD (aVar 2) (aC (.int 1))) aNone (aSome (aOp ixD (aVar 2) (aC (.int 2))))) (aP (aLst (aCons (aVar 6) aNil)))) (aVar 2) (aC (.int 1))) (aSeq (aSetIx (aOp addD (aOp ixD (aVar 2) (aC (.int 2))) (aC (.int 1))) (aVar 2) (aC (.int 2))) (aRet (aC (.bool true))))))) aNext) (aSeq (aIfS (aB (aOp (eqD false) (aVar 5) (aC (.int 4)))) (aSeq (aSet 7 (aOp gtD (aOp ixD (aVar 2) (aC (.int 2))) (aC (.int 0)))) (aSeq (aSetIx (aOp subD (aOp ixD (aVar 2) (aC (.int 2))) (aCB intD (aCons (aVar 7) aNil))) (aVar 2) (aC (.int 2))) (aRet (aOp (eqD false) (aMeth 0 "undo" F_Live_undo [] (aVar 1) aNil) (aVar 7))))) aNext) (aSeq (aSet 7 (aOp ltD (aOp ixD (aVar 2) (aC (.int 2))) (aCB lenD (aCons (aOp ixD (aVar 2) (aC (.int 1))) aNil)))) (aSeq (aSetIx (aOp addD (aOp ixD (aVar 2) (aC (.int 2))) (aCB intD (aCons (aVar 7) aNil))) (aVar 2) (aC (.int 2))) (aRet (aOp (eqD false) (aMeth 0 "redo" F_Live_redo [] (aVar 1) aNil) (aVar 7))))))))
noncomputable def F_law_deed : List Dt → Mem → Rs Dt := exitF outD 8 b_law_deed
section
variable {P : Program} {w : World} {K : PySem.W.Frag} {mg : Str → Option Value} {base : Heap} {cA : Nat → Addr}
theorem cal_law_deed (D : DefF K mg "_law_deed" s_law_deed ["_law_tape_here", "_law_live", "_law_state", "_law_names_here", "_law_shared"]) (bl : Blt mg) (c_Live_redo : CalM P w K mg base cA 0 "redo" 1 1 [] F_Live_redo) (c_Live_undo : CalM P w K mg base cA 0 "undo" 1 1 [] F_Live_undo) (c_Live_do : CalM P w K mg base cA 0 "do" 5 2 [] F_Live_do) (c_law_script : CalF P w K mg base cA "_law_script" 2 3 [] F_law_script) (c_Live_do_all : CalM P w K mg base cA 0 "do_all" 4 2 [] F_Live_do_all) (c_law_draw : CalF P w K mg base cA "_law_draw" 1 2 [] F_law_draw) : CalF P w K mg base cA "_law_deed" 6 5 [] F_law_deed := by
  obtain ⟨f, fd, F, hm, hb⟩ := D
  exact ⟨f, fd, ["_law_tape_here", "_law_live", "_law_state", "_law_names_here", "_law_shared"], [], [], (fund_g F sc_law_deed (fun _ _ _ _ => spF_len) (fun cdv A ga outer s H vs Q E hr h => body_ok outD_ok (ass_cons (as_set (i := 5) sc_law_deed.nd rfl (.inl rfl) (ae_call c_law_draw ga hr (by decide) rfl (tk_of (takes_of rfl rfl rfl rfl)) (aa_cons (ae_var 0) (aa_cons ae_int aa_nil)) (fun _ _ _ _ h => (aa_len_cons (aa_len_cons aa_len_nil)) h))) (ass_cons (as_if (at_cmp od_lt (ae_var 5) ae_int rfl) (ass_cons (as_set (i := 6) sc_law_deed.nd rfl (.inl rfl) (AL.p (al_list (ae_var 4) rfl bl.list))) (ass_cons (as_if (at_cmp od_lt (ae_var 5) ae_int rfl) (ass_cons (as_set (i := 6) sc_law_deed.nd rfl (.inl rfl) (ae_call c_law_script ga hr (by decide) rfl (tk_of (takes_of rfl rfl rfl rfl)) (aa_cons (ae_var 0) (aa_cons (ae_var 3) (aa_cons ae_int aa_nil))) (fun _ _ _ _ h => (aa_len_cons (aa_len_cons (aa_len_cons aa_len_nil))) h))) (ass_one (as_expr (ae_meth c_Live_do ga hr (by decide) (tk_of (takes_of rfl rfl rfl rfl)) (ae_var 1) (aa_cons (ae_ix (ae_var 6) ae_int) aa_nil) (fun _ _ _ _ h => by rw [(aa_len_cons aa_len_nil) h] <;> rfl))))) (ass_one (as_expr (ae_meth c_Live_do_all ga hr (by decide) (tk_of (takes_of rfl rfl rfl rfl)) (ae_var 1) (aa_cons (ae_var 4) aa_nil) (fun _ _ _ _ h => by rw [(aa_len_cons aa_len_nil) h] <;> rfl))))) (ass_cons (as_setIx (ae_op od_add (ae_sl (ae_ix (ae_var 2) ae_int) ao_none (ao_some (ae_ix (ae_var 2) ae_int))) (AL.p (al_lst (aa_cons (ae_var 6) aa_nil)))) (ae_var 2) ae_int) (ass_cons (as_setIx (ae_op od_add (ae_ix (ae_var 2) ae_int) ae_int) (ae_var 2) ae_int) (ass_one (as_ret ae_bl)))))) ass_nil) (ass_cons (as_if (at_cmp (od_eq hr.units) (ae_var 5) ae_int rfl) (ass_cons (as_set (i := 7) sc_law_deed.nd rfl (.inl rfl) (ae_cmp od_gt (ae_ix (ae_var 2) ae_int) ae_int rfl)) (ass_cons (as_setIx (ae_op od_sub (ae_ix (ae_var 2) ae_int) (ae_callTy cd_int rfl bl.int boot_intT (aa_cons (ae_var 7) aa_nil))) (ae_var 2) ae_int) (ass_one (as_ret (ae_cmp (od_eq hr.units) (ae_meth0 c_Live_undo ga hr (by decide) (tk_of (takes_of rfl rfl rfl rfl)) (ae_var 1) rfl) (ae_var 7) rfl))))) ass_nil) (ass_cons (as_set (i := 7) sc_law_deed.nd rfl (.inl rfl) (ae_cmp od_lt (ae_ix (ae_var 2) ae_int) (ae_callB cd_len rfl bl.len boot_len2 (aa_cons (ae_ix (ae_var 2) ae_int) aa_nil)) rfl)) (ass_cons (as_setIx (ae_op od_add (ae_ix (ae_var 2) ae_int) (ae_callTy cd_int rfl bl.int boot_intT (aa_cons (ae_var 7) aa_nil))) (ae_var 2) ae_int) (ass_one (as_ret (ae_cmp (od_eq hr.units) (ae_meth0 c_Live_redo ga hr (by decide) (tk_of (takes_of rfl rfl rfl rfl)) (ae_var 1) rfl) (ae_var 7) rfl)))))))) h)), hm, F.kp, hb, .nil, fun _ => .nil⟩
end
/-! Live.__init__ -/
abbrev s_Live_init : Stmt := inClass (top 21) 1
def N_Live_init : List Str := ["self", "path", "limit"]
theorem sc_Live_init : FnScope N_Live_init ["self", "path", "limit"] (defScope s_Live_init) := ⟨rfl, rfl, rfl, by decide +kernel, rfl, by decide +kernel, by decide +kernel⟩
noncomputable def b_Live_init : SS → Mem → Rs Fl := (aSeq (aIfS (aNot (aB (aCall F_is_path [] (aCons (aVar 1) aNil)))) (aRaise 11) aNext) (aSeq (aIfS (aB (aOp gtD (aCB lenD (aCons (aVar 1) aNil)) (aVar 2))) (aRaise 16) aNext) (aSeq (aSetF [0] "most" (aVar 0) (aVar 2)) (aSeq (aSetF [0] "current" (aVar 0) (aP (aListOf (aVar 1)))) (aSeq (aSetF [0] "done" (aVar 0) (aNew false (aLst aNil))) (aSetF [0] "undone" (aVar 0) (aNew false (aLst aNil))))))))
noncomputable def F_Live_init : List Dt → Mem → Rs Dt := exitF outD 3 b_Live_init
section
variable {P : Program} {w : World} {K : PySem.W.Frag} {mg : Str → Option Value} {base : Heap} {cA : Nat → Addr}
theorem cal_Live_init (D : InitF K mg cA "Live" 0 "Live.__init__" s_Live_init ["self", "path", "limit"] [(.int 40)]) (bl : Blt mg) (n_Live_undone : ∀ c ∈ ([0] : List Nat), Cls K (cA c) ∧ NoAttr K (cA c) "undone") (n_Live_done : ∀ c ∈ ([0] : List Nat), Cls K (cA c) ∧ NoAttr K (cA c) "done") (n_Live_current : ∀ c ∈ ([0] : List Nat), Cls K (cA c) ∧ NoAttr K (cA c) "current") (n_Live_most : ∀ c ∈ ([0] : List Nat), Cls K (cA c) ∧ NoAttr K (cA c) "most") (e_PathFull : ExcF K mg cA "PathFull" 16) (c_is_path : CalF P w K mg base cA "is_path" 2 1 [] F_is_path) (e_InvalidPath : ExcF K mg cA "InvalidPath" 11) : CalK P w K mg base cA "Live" 0 3 3 [(.int 40)] F_Live_init := by
  obtain ⟨f, fd, kws, dvs, dv0, ds, F, hM, hm, hb, hv, hd⟩ := D
  exact ⟨f, fd, ["self", "path", "limit"], dvs, ds, (fund_g F sc_Live_init (fun _ _ _ _ => spF_len) (fun cdv A ga outer s H vs Q E hr h => body_ok outD_ok (ass_cons (as_if (at_not (at_val (ae_call c_is_path ga hr (by decide) rfl (tk_of (takes_of rfl rfl rfl rfl)) (aa_cons (ae_var 1) aa_nil) (fun _ _ _ _ h => (aa_len_cons aa_len_nil) h)))) (ass_one (as_raise rfl (takes_of rfl rfl rfl rfl) e_InvalidPath rfl)) ass_nil) (ass_cons (as_if (at_cmp od_gt (ae_callB cd_len rfl bl.len boot_len2 (aa_cons (ae_var 1) aa_nil)) (ae_var 2) rfl) (ass_one (as_raise rfl (takes_of rfl rfl rfl rfl) e_PathFull rfl)) ass_nil) (ass_cons (as_fld [0] (ae_var 0) (ae_var 2) n_Live_most) (ass_cons (as_fld [0] (ae_var 0) (AL.p (al_list (ae_var 1) rfl bl.list)) n_Live_current) (ass_cons (as_fld [0] (ae_var 0) (AL.new false (al_lst aa_nil)) n_Live_done) (ass_one (as_fld [0] (ae_var 0) (AL.new false (al_lst aa_nil)) n_Live_undone))))))) h)), hM, hm, hb, hv, hd⟩
theorem cal_Live_init_K (D : InitK K mg cA "Live" 0 "Live.__init__" s_Live_init ["self", "path", "limit"] 1 ["limit"]) (bl : Blt mg) (n_Live_undone : ∀ c ∈ ([0] : List Nat), Cls K (cA c) ∧ NoAttr K (cA c) "undone") (n_Live_done : ∀ c ∈ ([0] : List Nat), Cls K (cA c) ∧ NoAttr K (cA c) "done") (n_Live_current : ∀ c ∈ ([0] : List Nat), Cls K (cA c) ∧ NoAttr K (cA c) "current") (n_Live_most : ∀ c ∈ ([0] : List Nat), Cls K (cA c) ∧ NoAttr K (cA c) "most") (e_PathFull : ExcF K mg cA "PathFull" 16) (c_is_path : CalF P w K mg base cA "is_path" 2 1 [] F_is_path) (e_InvalidPath : ExcF K mg cA "InvalidPath" 11) : CalKK P w K mg base cA "Live" 0 3 1 ["limit"] 3 F_Live_init := by
  obtain ⟨f, fd, kws, F, hM, hm, hb⟩ := D
  exact ⟨f, fd, ["self", "path", "limit"], (fund_g F sc_Live_init (fun _ _ _ _ => spF_len) (fun cdv A ga outer s H vs Q E hr h => body_ok outD_ok (ass_cons (as_if (at_not (at_val (ae_call c_is_path ga hr (by decide) rfl (tk_of (takes_of rfl rfl rfl rfl)) (aa_cons (ae_var 1) aa_nil) (fun _ _ _ _ h => (aa_len_cons aa_len_nil) h)))) (ass_one (as_raise rfl (takes_of rfl rfl rfl rfl) e_InvalidPath rfl)) ass_nil) (ass_cons (as_if (at_cmp od_gt (ae_callB cd_len rfl bl.len boot_len2 (aa_cons (ae_var 1) aa_nil)) (ae_var 2) rfl) (ass_one (as_raise rfl (takes_of rfl rfl rfl rfl) e_PathFull rfl)) ass_nil) (ass_cons (as_fld [0] (ae_var 0) (ae_var 2) n_Live_most) (ass_cons (as_fld [0] (ae_var 0) (AL.p (al_list (ae_var 1) rfl bl.list)) n_Live_current) (ass_cons (as_fld [0] (ae_var 0) (AL.new false (al_lst aa_nil)) n_Live_done) (ass_one (as_fld [0] (ae_var 0) (AL.new false (al_lst aa_nil)) n_Live_undone))))))) h)), hM, hm, hb, rfl⟩
end
/-! Live.history -/
abbrev s_Live_history : Stmt := inClass (top 21) 4
def N_Live_history : List Str := ["self", "found", "script", "path"]
theorem sc_Live_history : FnScope N_Live_history ["self"] (defScope s_Live_history) := ⟨rfl, rfl, rfl, by decide +kernel, rfl, by decide +kernel, by decide +kernel⟩
noncomputable def b_Live_history : SS → Mem → Rs Fl := (aSeq (aSet 1 (aNew true (aLst aNil))) (aSeq (aFor (aSeqI (aFld [0] "done" (aVar 0))) (gTupD 2 (gsCons (gN 2) (gsCons (gN 3) gsNil))) (aDrop (aML extendD (aVar 1) (aCons (aVar 2) aNil)))) (aRet (aVar 1))))
noncomputable def F_Live_historyC : List Dt → Mem → Rs Dt := exitF outC 4 b_Live_history
section
variable {P : Program} {w : World} {K : PySem.W.Frag} {mg : Str → Option Value} {base : Heap} {cA : Nat → Addr}
theorem cal_Live_history_C {cn : Nat} (D : PrpF K cA cn "history" "Live.history" s_Live_history) (bl : Blt mg) (n_Live_done : ∀ c ∈ ([0] : List Nat), Cls K (cA c) ∧ NoAttr K (cA c) "done") : CalP P w K mg base cA cn "history" 1 F_Live_historyC := by
  obtain ⟨f, p, fd, F, hc, hp, hb⟩ := D
  exact ⟨f, p, fd, ["self"], (fund_g F sc_Live_history (fun _ _ _ _ => spF_len) (fun cdv A ga outer s H vs Q E hr h => body_ok outC_ok (ass_cons (as_set (i := 1) sc_Live_history.nd rfl (.inl rfl) (AL.new true (al_lst aa_nil))) (ass_cons (as_for PassesOwn.leaving rfl (ai_seq (ae_fld [0] (ae_var 0) n_Live_done)) (ag_tup 2 rfl (ags_cons (ag_name sc_Live_history.nd rfl (.inl rfl)) (ags_cons (ag_name sc_Live_history.nd rfl (.inl rfl)) ags_nil))) (ass_one (as_expr (ae_ml PySem.F.slot_list_extend PySem.F.type_list_extend md_extend (ae_var 1) (aa_cons (ae_var 2) aa_nil))))) (ass_one (as_ret (ae_var 1))))) h)), hc, hp, hb⟩
end
/-! Live.path -/
abbrev s_Live_path : Stmt := inClass (top 21) 3
def N_Live_path : List Str := ["self"]
theorem sc_Live_path : FnScope N_Live_path ["self"] (defScope s_Live_path) := ⟨rfl, rfl, rfl, by decide +kernel, rfl, by decide +kernel, by decide +kernel⟩
noncomputable def b_Live_path : SS → Mem → Rs Fl := (aRet (aNew true (aListOf (aFld [0] "current" (aVar 0)))))
noncomputable def F_Live_pathC : List Dt → Mem → Rs Dt := exitF outC 1 b_Live_path
section
variable {P : Program} {w : World} {K : PySem.W.Frag} {mg : Str → Option Value} {base : Heap} {cA : Nat → Addr}
theorem cal_Live_path_C {cn : Nat} (D : PrpF K cA cn "path" "Live.path" s_Live_path) (bl : Blt mg) (n_Live_current : ∀ c ∈ ([0] : List Nat), Cls K (cA c) ∧ NoAttr K (cA c) "current") : CalP P w K mg base cA cn "path" 1 F_Live_pathC := by
  obtain ⟨f, p, fd, F, hc, hp, hb⟩ := D
  exact ⟨f, p, fd, ["self"], (fund_g F sc_Live_path (fun _ _ _ _ => spF_len) (fun cdv A ga outer s H vs Q E hr h => body_ok outC_ok (ass_one (as_ret (AL.new true (al_list (ae_fld [0] (ae_var 0) n_Live_current) rfl bl.list)))) h)), hc, hp, hb⟩
end
/-! law -/
abbrev s_law : Stmt := top 34
def N_law : List Str := ["_law_script_here", "_law_tape_here", "_law_names_here", "_law_start", "_law_shared", "_law_lives", "_law_states", "_law_k", "_law_cell", "_law_other", "_law_at", "_law_live", "_law_state", "_law_some"]
theorem sc_law : FnScope N_law ["_law_script_here"] (defScope s_law) := ⟨rfl, rfl, rfl, by decide +kernel, rfl, by decide +kernel, by decide +kernel⟩
noncomputable def b_law : SS → Mem → Rs Fl := (aSeq (aSet 1 (aCall F_law_tapeC [] (aCons (aOp ixD (aOp addD (aVar 0) (aP (aLst (aCons (aC (.int 0)) aNil)))) (aC (.int 0))) (aCons (aC (.int 37)) aNil)))) (aSeq (aSet 2 (aCall F_law_names [] (aCons (aVar 1) (aCons (aC (.int 6)) aNil)))) (aSeq (aSet 3 (aCall F_law_path [] (aCons (aVar 1) (aCons (aVar 2) aNil)))) (aSeq (aSet 4 (aCall F_law_scriptC [] (aCons (aVar 1) (aCons (aVar 2) (aCons (aCall F_law_draw [] (aCons (aVar 1) (aCons (aC (.int 6)) aNil))) aNil))))) (aSeq (aSet 5 (aNewD (aCons (aMake 0 F_Live_init [(.int 40)] (aCons (aVar 3) aNil)) (aCons (aMakeK 0 F_Live_init (aCons (aVar 3) aNil) (aCons (aC (.int 40)) aNil)) aNil)))) (aSeq (aSet 6 (aNewD (aCons (aNew false (aLst (aCons (aVar 3) (aCons (aP (aLst aNil)) (aCons (aC (.int 0)) aNil))))) (aCons (aNew false (aLst (aCons (aVar 3) (aCons (aP (aLst aNil)) (aCons (aC (.int 0)) aNil))))) aNil)))) (aSeq (aFor (aEnum (aSl (aVar 0) (aSome (aC (.int 1))) (aSome (aC (.int 25))))) (gTupD 2 (gsCons (gN 7) (gsCons (gN 8) gsNil))) (aSeq (aSet 9 (aCall F_law_tapeC [] (aCons (aVar 8) (aCons (aVar 7) aNil)))) (aSeq (aSet 10 (aCall F_law_draw [] (aCons (aVar 9) (aCons (aC (.int 2)) aNil)))) (aSeq (aIfS (aNot (aB (aCall F_law_deed [] (aCons (aVar 9) (aCons (aOp ixLD (aVar 5) (aVar 10)) (aCons (aOp ixLD (aVar 6) (aVar 10)) (aCons (aVar 2) (aCons (aVar 4) aNil)))))))) (aRet (aC (.bool false))) aNext) (aSeq (aDrop (aML appendD (aVar 4) (aCons (aOp ixD (aCall F_law_script [] (aCons (aVar 9) (aCons (aVar 2) (aCons (aC (.int 1)) aNil)))) (aC (.int 0))) aNil))) (aSeq (aSet 4 (aNew true (aSlL (aVar 4) (aSome (aNeg (aC (.int 5)))) aNone))) (aForZ 11 12 (aVar 5) (aVar 6) (aSeq (aSet 13 (aCall F_law_flat [] (aCons (aSl (aOp ixD (aVar 12) (aC (.int 1))) aNone (aSome (aOp ixD (aVar 12) (aC (.int 2))))) aNil))) (aIfS (aOr (aNot (aB (aCall F_law_equal [] (aCons (aProp 0 F_Live_historyC (aVar 11)) (aCons (aVar 13) aNil))))) (aNot (aB (aCall F_law_equal [] (aCons (aProp 0 F_Live_pathC (aVar 11)) (aCons (aCall F_law_run [] (aCons (aOp ixD (aVar 12) (aC (.int 0))) (aCons (aVar 13) aNil))) aNil)))))) (aRet (aC (.bool false))) aNext))))))))) (aRet (aC (.bool true))))))))))
noncomputable def F_law : List Dt → Mem → Rs Dt := exitF outD 14 b_law
section
variable {P : Program} {w : World} {K : PySem.W.Frag} {mg : Str → Option Value} {base : Heap} {cA : Nat → Addr}
theorem ok_law {f : Addr} {fd : FuncData} (F : FunD K "law" "law" (defArgs s_law) (defBody s_law) (defScope s_law) [] [] f fd) (bl : Blt mg) (c_law_run : CalF P w K mg base cA "_law_run" 1 2 [] F_law_run) (c_Live_path : CalP P w K mg base cA 0 "path" 1 F_Live_pathC) (c_law_equal : CalF P w K mg base cA "_law_equal" 1 2 [] F_law_equal) (c_Live_history : CalP P w K mg base cA 0 "history" 1 F_Live_historyC) (c_law_flat : CalF P w K mg base cA "_law_flat" 1 1 [] F_law_flat) (c_law_script : CalF P w K mg base cA "_law_script" 2 3 [] F_law_script) (c_law_deed : CalF P w K mg base cA "_law_deed" 6 5 [] F_law_deed) (c_law_draw : CalF P w K mg base cA "_law_draw" 1 2 [] F_law_draw) (c_law_tape_C : CalF P w K mg base cA "_law_tape" 1 2 [] F_law_tapeC) (kk_Live : CalKK P w K mg base cA "Live" 0 3 1 ["limit"] 3 F_Live_init) (k_Live : CalK P w K mg base cA "Live" 0 3 3 [(.int 40)] F_Live_init) (c_law_script_C : CalF P w K mg base cA "_law_script" 2 3 [] F_law_scriptC) (c_law_path : CalF P w K mg base cA "_law_path" 2 2 [] F_law_path) (c_law_names : CalF P w K mg base cA "_law_names" 3 2 [] F_law_names) : FnG P w K mg base 7 f fd ["_law_script_here"] (spF K cA 1 F_law) :=
  (fund_g F sc_law (fun _ _ _ _ => spF_len) (fun cdv A ga outer s H vs Q E hr h => body_ok outD_ok (ass_cons (as_set (i := 1) sc_law.nd rfl (.inl rfl) (ae_call c_law_tape_C ga hr (by decide) rfl (tk_of (takes_of rfl rfl rfl rfl)) (aa_cons (ae_ix (ae_op od_add (ae_var 0) (AL.p (al_lst (aa_cons ae_int aa_nil)))) ae_int) (aa_cons ae_int aa_nil)) (fun _ _ _ _ h => (aa_len_cons (aa_len_cons aa_len_nil)) h))) (ass_cons (as_set (i := 2) sc_law.nd rfl (.inl rfl) (ae_call c_law_names ga hr (by decide) rfl (tk_of (takes_of rfl rfl rfl rfl)) (aa_cons (ae_var 1) (aa_cons ae_int aa_nil)) (fun _ _ _ _ h => (aa_len_cons (aa_len_cons aa_len_nil)) h))) (ass_cons (as_set (i := 3) sc_law.nd rfl (.inl rfl) (ae_call c_law_path ga hr (by decide) rfl (tk_of (takes_of rfl rfl rfl rfl)) (aa_cons (ae_var 1) (aa_cons (ae_var 2) aa_nil)) (fun _ _ _ _ h => (aa_len_cons (aa_len_cons aa_len_nil)) h))) (ass_cons (as_set (i := 4) sc_law.nd rfl (.inl rfl) (ae_call c_law_script_C ga hr (by decide) rfl (tk_of (takes_of rfl rfl rfl rfl)) (aa_cons (ae_var 1) (aa_cons (ae_var 2) (aa_cons (ae_call c_law_draw ga hr (by decide) rfl (tk_of (takes_of rfl rfl rfl rfl)) (aa_cons (ae_var 1) (aa_cons ae_int aa_nil)) (fun _ _ _ _ h => (aa_len_cons (aa_len_cons aa_len_nil)) h)) aa_nil))) (fun _ _ _ _ h => (aa_len_cons (aa_len_cons (aa_len_cons aa_len_nil))) h))) (ass_cons (as_set (i := 5) sc_law.nd rfl (.inl rfl) (ae_newD (aa_cons (ae_make k_Live ga hr (by decide) rfl (tk_of (takes_of rfl rfl rfl rfl)) (aa_cons (ae_var 3) aa_nil) (fun _ _ _ _ h => by rw [(aa_len_cons aa_len_nil) h] <;> rfl)) (aa_cons (ae_makeK kk_Live ga hr (by decide) rfl (tk_of (takes_of rfl rfl rfl rfl)) (aa_cons (ae_var 3) aa_nil) (ak_cons ae_int ak_nil) (fun _ _ _ _ h => (aa_len_cons aa_len_nil) h) (fun _ _ _ _ h => (aa_len_cons aa_len_nil) h)) aa_nil)))) (ass_cons (as_set (i := 6) sc_law.nd rfl (.inl rfl) (ae_newD (aa_cons (AL.new false (al_lst (aa_cons (ae_var 3) (aa_cons (AL.p (al_lst aa_nil)) (aa_cons ae_int aa_nil))))) (aa_cons (AL.new false (al_lst (aa_cons (ae_var 3) (aa_cons (AL.p (al_lst aa_nil)) (aa_cons ae_int aa_nil))))) aa_nil)))) (ass_cons (as_for PassesOwn.leaving rfl (ai_enum rfl bl.enumerate (ae_sl (ae_var 0) (ao_some ae_int) (ao_some ae_int))) (ag_tup 2 rfl (ags_cons (ag_name sc_law.nd rfl (.inl rfl)) (ags_cons (ag_name sc_law.nd rfl (.inl rfl)) ags_nil))) (ass_cons (as_set (i := 9) sc_law.nd rfl (.inl rfl) (ae_call c_law_tape_C ga hr (by decide) rfl (tk_of (takes_of rfl rfl rfl rfl)) (aa_cons (ae_var 8) (aa_cons (ae_var 7) aa_nil)) (fun _ _ _ _ h => (aa_len_cons (aa_len_cons aa_len_nil)) h))) (ass_cons (as_set (i := 10) sc_law.nd rfl (.inl rfl) (ae_call c_law_draw ga hr (by decide) rfl (tk_of (takes_of rfl rfl rfl rfl)) (aa_cons (ae_var 9) (aa_cons ae_int aa_nil)) (fun _ _ _ _ h => (aa_len_cons (aa_len_cons aa_len_nil)) h))) (ass_cons (as_if (at_not (at_val (ae_call c_law_deed ga hr (by decide) rfl (tk_of (takes_of rfl rfl rfl rfl)) (aa_cons (ae_var 9) (aa_cons (ae_ixL (ae_var 5) (ae_var 10)) (aa_cons (ae_ixL (ae_var 6) (ae_var 10)) (aa_cons (ae_var 2) (aa_cons (ae_var 4) aa_nil))))) (fun _ _ _ _ h => (aa_len_cons (aa_len_cons (aa_len_cons (aa_len_cons (aa_len_cons aa_len_nil))))) h)))) (ass_one (as_ret ae_bl)) ass_nil) (ass_cons (as_expr (ae_ml PySem.F.slot_list_append PySem.F.type_list_append md_append (ae_var 4) (aa_cons (ae_ix (ae_call c_law_script ga hr (by decide) rfl (tk_of (takes_of rfl rfl rfl rfl)) (aa_cons (ae_var 9) (aa_cons (ae_var 2) (aa_cons ae_int aa_nil))) (fun _ _ _ _ h => (aa_len_cons (aa_len_cons (aa_len_cons aa_len_nil))) h)) ae_int) aa_nil))) (ass_cons (as_set (i := 4) sc_law.nd rfl (.inl rfl) (AL.new true (al_sl (ae_var 4) (ao_some (ae_neg ae_int)) ao_none))) (ass_one (as_forZ (i := 11) (j := 12) PassesOwn.leaving rfl rfl bl.zip (ae_var 5) (ae_var 6) sc_law.nd rfl rfl (.inl rfl) (.inl rfl) (.inl rfl) (.inl rfl) (ass_cons (as_set (i := 13) sc_law.nd rfl (.inl rfl) (ae_call c_law_flat ga hr (by decide) rfl (tk_of (takes_of rfl rfl rfl rfl)) (aa_cons (ae_sl (ae_ix (ae_var 12) ae_int) ao_none (ao_some (ae_ix (ae_var 12) ae_int))) aa_nil) (fun _ _ _ _ h => (aa_len_cons aa_len_nil) h))) (ass_one (as_if (AW.at_ (aw_or (at_not (at_val (ae_call c_law_equal ga hr (by decide) rfl (tk_of (takes_of rfl rfl rfl rfl)) (aa_cons (ae_prop c_Live_history ga hr (by decide) (ae_var 11)) (aa_cons (ae_var 13) aa_nil)) (fun _ _ _ _ h => (aa_len_cons (aa_len_cons aa_len_nil)) h)))) (aw_or1 (at_not (at_val (ae_call c_law_equal ga hr (by decide) rfl (tk_of (takes_of rfl rfl rfl rfl)) (aa_cons (ae_prop c_Live_path ga hr (by decide) (ae_var 11)) (aa_cons (ae_call c_law_run ga hr (by decide) rfl (tk_of (takes_of rfl rfl rfl rfl)) (aa_cons (ae_ix (ae_var 12) ae_int) (aa_cons (ae_var 13) aa_nil)) (fun _ _ _ _ h => (aa_len_cons (aa_len_cons aa_len_nil)) h)) aa_nil)) (fun _ _ _ _ h => (aa_len_cons (aa_len_cons aa_len_nil)) h))))))) (ass_one (as_ret ae_bl)) ass_nil))))))))))) (ass_one (as_ret ae_bl))))))))) h))
end
def dx_is_name : DX := ⟨fun K => He.ga K "is_name", "is_name", "is_name", s_is_name, []⟩
def dx_is_path : DX := ⟨fun K => He.ga K "is_path", "is_path", "is_path", s_is_path, []⟩
def dx_is_command : DX := ⟨fun K => He.ga K "is_command", "is_command", "is_command", s_is_command, []⟩
def dx_apply : DX := ⟨fun K => He.ga K "apply", "apply", "apply", s_apply, []⟩
def dx_law_tape : DX := ⟨fun K => He.ga K "_law_tape", "_law_tape", "_law_tape", s_law_tape, []⟩
def dx_law_draw : DX := ⟨fun K => He.ga K "_law_draw", "_law_draw", "_law_draw", s_law_draw, []⟩
def dx_law_name : DX := ⟨fun K => He.ga K "_law_name", "_law_name", "_law_name", s_law_name, []⟩
def dx_law_names : DX := ⟨fun K => He.ga K "_law_names", "_law_names", "_law_names", s_law_names, []⟩
def dx_law_script : DX := ⟨fun K => He.ga K "_law_script", "_law_script", "_law_script", s_law_script, []⟩
def dx_law_path : DX := ⟨fun K => He.ga K "_law_path", "_law_path", "_law_path", s_law_path, []⟩
def dx_law_run : DX := ⟨fun K => He.ga K "_law_run", "_law_run", "_law_run", s_law_run, []⟩
def dx_law_equal : DX := ⟨fun K => He.ga K "_law_equal", "_law_equal", "_law_equal", s_law_equal, []⟩
def dx_law_flat : DX := ⟨fun K => He.ga K "_law_flat", "_law_flat", "_law_flat", s_law_flat, []⟩
def dx_Live_redo : DX := ⟨fun K => He.ma K (He.ga K "Live") "redo", "redo", "Live.redo", s_Live_redo, []⟩
def dx_Live_after : DX := ⟨fun K => He.ma K (He.ga K "Live") "after", "after", "Live.after", s_Live_after, []⟩
def dx_Live_do_all : DX := ⟨fun K => He.ma K (He.ga K "Live") "do_all", "do_all", "Live.do_all", s_Live_do_all, []⟩
def dx_Live_do : DX := ⟨fun K => He.ma K (He.ga K "Live") "do", "do", "Live.do", s_Live_do, []⟩
def dx_Live_undo : DX := ⟨fun K => He.ma K (He.ga K "Live") "undo", "undo", "Live.undo", s_Live_undo, []⟩
def dx_law_deed : DX := ⟨fun K => He.ga K "_law_deed", "_law_deed", "_law_deed", s_law_deed, []⟩
def dx_Live_init : DX := ⟨fun K => He.ma K (He.ga K "Live") "__init__", "__init__", "Live.__init__", s_Live_init, [("limit", (.int 40))]⟩
def dx_Live_history : DX := ⟨fun K => prG K "Live" "history", "history", "Live.history", s_Live_history, []⟩
def dx_Live_path : DX := ⟨fun K => prG K "Live" "path", "path", "Live.path", s_Live_path, []⟩
def dx_law : DX := ⟨fun K => He.ga K "law", "law", "law", s_law, []⟩
def cNames : List Str := ["Live", "PinnedLive", "Desk", "Grid", "", "", "", "", "", "", "PathEditError", "InvalidPath", "InvalidCommand", "InvalidLine", "IndexOutOfRange", "NotShortest", "PathFull", "NamePinned"]
def cAt (K : PySem.W.Frag) (n : Nat) : Addr := He.ga K (cNames.getD n "")
def fa0 : List (PySem.W.Frag → Bool) := [noLs,
  fOk (.free "len"),
  fOk (.free "abs"),
  fOk (.free "max"),
  fOk (.free "min"),
  fOk (.free "int"),
  fOk (.free "str"),
  fOk (.free "bool"),
  fOk (.free "list"),
  fOk (.free "tuple"),
  fOk (.free "dict"),
  fOk (.free "set"),
  fOk (.free "range"),
  fOk (.free "enumerate"),
  fOk (.free "isinstance"),
  fOk (.free "all"),
  fOk (.free "any"),
  fOk (.free "sum"),
  fOk (.free "sorted"),
  fOk (.free "reversed"),
  fOk (.free "zip"),
  fOk (.free "repr"),
  fOk (.free "super"),
  fOk (.glo "is_name"),
  fOk (.glo "is_path"),
  fOk (.glo "is_command"),
  fOk (.glo "apply"),
  fOk (.glo "_law_tape"),
  fOk (.glo "_law_draw"),
  fOk (.glo "_law_name"),
  fOk (.glo "_law_names"),
  fOk (.glo "_law_script"),
  fOk (.glo "_law_path"),
  fOk (.glo "_law_run"),
  fOk (.glo "_law_equal"),
  fOk (.glo "_law_flat"),
  fOk (.cls "Live"),
  fOk (.meth "Live" "redo"),
  fOk (.meth "Live" "after"),
  fOk (.meth "Live" "do_all"),
  fOk (.meth "Live" "do"),
  fOk (.meth "Live" "undo"),
  fOk (.glo "_law_deed"),
  fOk (.glo "Live"),
  fOk (.mkr "Live"),
  prB "Live" "history",
  prB "Live" "path",
  fOk (.str "CHARS" "abcdefghijklmnopqrstuvwxyz0123456789./_"),
  fOk (.int "MOST_CHARS" 12),
  tpB "ABSENT" [(.str "skip"), (.str "front"), (.str "back")],
  tpB "PRESENT" [(.str "keep"), (.str "front"), (.str "back"), (.str "remove")],
  fOk (.noat "Live" "current"),
  fOk (.noat "Live" "done"),
  fOk (.noat "Live" "undone"),
  fOk (.noat "Live" "most"),
  fOk (.glo "PathFull"),
  fOk (.exc "PathFull"),
  fOk (.glo "InvalidCommand"),
  fOk (.exc "InvalidCommand"),
  fOk (.glo "InvalidPath"),
  fOk (.exc "InvalidPath"),
  fOk (.glo "law")]
def fn0 : List DX := [dx_is_name, dx_is_path, dx_is_command, dx_apply, dx_law_tape, dx_law_draw, dx_law_name, dx_law_names, dx_law_script, dx_law_path, dx_law_run, dx_law_equal, dx_law_flat, dx_Live_redo, dx_Live_after, dx_Live_do_all, dx_Live_do, dx_Live_undo, dx_law_deed, dx_Live_init, dx_Live_history, dx_Live_path, dx_law]
abbrev rr : PySem.W.OpenRow := PySem.W.OpenLaw.row PySem.Challenge.rw_endplaces_k47_two_live_paths
abbrev hk : PySem.W.Hook := hookX 7 fa0 fn0
def ob (s : PySem.W.SharedT) : He.AlD := obsXG 7 fa0 fn0 (HandSHeadRun.getT s)
theorem ob_eq (s : PySem.W.SharedT) : ob s = hk.obs s.abs := obsXG_eq (HandSHeadRun.getT_eq s)
def loose0 : List Str := ["_wall", "PathEditError", "InvalidPath", "InvalidCommand", "InvalidLine", "PathFull", "CHARS", "MOST_CHARS", "is_name", "is_path", "PRESENT", "ABSENT", "is_command", "apply", "NOTHING", "parse_path", "Live", "_law_tape", "_law_draw", "_law_cells", "_law_name", "_law_names", "_law_script", "_law_path", "_law_run", "_law_equal", "_law_flat", "_law_deed"]
def loose : List Str := loose0
theorem facts {w : World} {K : PySem.W.Frag} {h : Heap} {mg : Str → Option Value} {f : Addr} (X : K.In h) (G : h.Ns mainGlobals mg) (hfa : mg ("law" : Str) = some (.ref f)) (c : SaysX fa0 fn0 K) :
    ∃ fd : FuncData, noLs K = true ∧ (∀ (s : Shared) (v : Value), BindsTo s fd ⟨[v], []⟩ [("_law_script_here", v)]) ∧ ∀ base : Heap, K.In base → base.Ns mainGlobals mg → FnG rr.prog w K mg base 7 f fd ["_law_script_here"] (spF K (cAt K) 1 F_law) := by
  have bl : Blt mg := ⟨He.free_ok X G (c.fact 1 rfl), He.free_ok X G (c.fact 2 rfl), He.free_ok X G (c.fact 3 rfl), He.free_ok X G (c.fact 4 rfl), He.free_ok X G (c.fact 5 rfl), He.free_ok X G (c.fact 6 rfl), He.free_ok X G (c.fact 7 rfl), He.free_ok X G (c.fact 8 rfl), He.free_ok X G (c.fact 9 rfl), He.free_ok X G (c.fact 10 rfl), He.free_ok X G (c.fact 11 rfl), He.free_ok X G (c.fact 12 rfl), He.free_ok X G (c.fact 13 rfl), He.free_ok X G (c.fact 14 rfl), He.free_ok X G (c.fact 15 rfl), He.free_ok X G (c.fact 16 rfl), He.free_ok X G (c.fact 17 rfl), He.free_ok X G (c.fact 18 rfl), He.free_ok X G (c.fact 19 rfl), He.free_ok X G (c.fact 20 rfl), He.free_ok X G (c.fact 21 rfl), He.free_ok X G (c.fact 22 rfl)⟩
  obtain ⟨fd_is_name, F0_is_name⟩ := c.fun_ 0 (d := dx_is_name) rfl
  have FF_is_name : FunD K "is_name" "is_name" (defArgs s_is_name) (defBody s_is_name) (defScope s_is_name) [] [] (He.ga K "is_name") fd_is_name := F0_is_name
  have D_is_name : DefF K mg "is_name" s_is_name ["value"] := defF_mk X G FF_is_name (c.fact 23 rfl) (fun _ _ _ _ _ _ us hl => match us, hl with | [_], _ => rfl)
  obtain ⟨fd_is_path, F0_is_path⟩ := c.fun_ 1 (d := dx_is_path) rfl
  have FF_is_path : FunD K "is_path" "is_path" (defArgs s_is_path) (defBody s_is_path) (defScope s_is_path) [] [] (He.ga K "is_path") fd_is_path := F0_is_path
  have D_is_path : DefF K mg "is_path" s_is_path ["value"] := defF_mk X G FF_is_path (c.fact 24 rfl) (fun _ _ _ _ _ _ us hl => match us, hl with | [_], _ => rfl)
  obtain ⟨fd_is_command, F0_is_command⟩ := c.fun_ 2 (d := dx_is_command) rfl
  have FF_is_command : FunD K "is_command" "is_command" (defArgs s_is_command) (defBody s_is_command) (defScope s_is_command) [] [] (He.ga K "is_command") fd_is_command := F0_is_command
  have D_is_command : DefF K mg "is_command" s_is_command ["value"] := defF_mk X G FF_is_command (c.fact 25 rfl) (fun _ _ _ _ _ _ us hl => match us, hl with | [_], _ => rfl)
  obtain ⟨fd_apply, F0_apply⟩ := c.fun_ 3 (d := dx_apply) rfl
  have FF_apply : FunD K "apply" "apply" (defArgs s_apply) (defBody s_apply) (defScope s_apply) [] [] (He.ga K "apply") fd_apply := F0_apply
  have D_apply : DefF K mg "apply" s_apply ["path", "command"] := defF_mk X G FF_apply (c.fact 26 rfl) (fun _ _ _ _ _ _ us hl => match us, hl with | [_, _], _ => rfl)
  obtain ⟨fd_law_tape, F0_law_tape⟩ := c.fun_ 4 (d := dx_law_tape) rfl
  have FF_law_tape : FunD K "_law_tape" "_law_tape" (defArgs s_law_tape) (defBody s_law_tape) (defScope s_law_tape) [] [] (He.ga K "_law_tape") fd_law_tape := F0_law_tape
  have D_law_tape : DefF K mg "_law_tape" s_law_tape ["_law_cell", "_law_salt"] := defF_mk X G FF_law_tape (c.fact 27 rfl) (fun _ _ _ _ _ _ us hl => match us, hl with | [_, _], _ => rfl)
  obtain ⟨fd_law_draw, F0_law_draw⟩ := c.fun_ 5 (d := dx_law_draw) rfl
  have FF_law_draw : FunD K "_law_draw" "_law_draw" (defArgs s_law_draw) (defBody s_law_draw) (defScope s_law_draw) [] [] (He.ga K "_law_draw") fd_law_draw := F0_law_draw
  have D_law_draw : DefF K mg "_law_draw" s_law_draw ["_law_tape_here", "_law_count"] := defF_mk X G FF_law_draw (c.fact 28 rfl) (fun _ _ _ _ _ _ us hl => match us, hl with | [_, _], _ => rfl)
  obtain ⟨fd_law_name, F0_law_name⟩ := c.fun_ 6 (d := dx_law_name) rfl
  have FF_law_name : FunD K "_law_name" "_law_name" (defArgs s_law_name) (defBody s_law_name) (defScope s_law_name) [] [] (He.ga K "_law_name") fd_law_name := F0_law_name
  have D_law_name : DefF K mg "_law_name" s_law_name ["_law_tape_here"] := defF_mk X G FF_law_name (c.fact 29 rfl) (fun _ _ _ _ _ _ us hl => match us, hl with | [_], _ => rfl)
  obtain ⟨fd_law_names, F0_law_names⟩ := c.fun_ 7 (d := dx_law_names) rfl
  have FF_law_names : FunD K "_law_names" "_law_names" (defArgs s_law_names) (defBody s_law_names) (defScope s_law_names) [] [] (He.ga K "_law_names") fd_law_names := F0_law_names
  have D_law_names : DefF K mg "_law_names" s_law_names ["_law_tape_here", "_law_count"] := defF_mk X G FF_law_names (c.fact 30 rfl) (fun _ _ _ _ _ _ us hl => match us, hl with | [_, _], _ => rfl)
  obtain ⟨fd_law_script, F0_law_script⟩ := c.fun_ 8 (d := dx_law_script) rfl
  have FF_law_script : FunD K "_law_script" "_law_script" (defArgs s_law_script) (defBody s_law_script) (defScope s_law_script) [] [] (He.ga K "_law_script") fd_law_script := F0_law_script
  have D_law_script : DefF K mg "_law_script" s_law_script ["_law_tape_here", "_law_names_here", "_law_count"] := defF_mk X G FF_law_script (c.fact 31 rfl) (fun _ _ _ _ _ _ us hl => match us, hl with | [_, _, _], _ => rfl)
  obtain ⟨fd_law_path, F0_law_path⟩ := c.fun_ 9 (d := dx_law_path) rfl
  have FF_law_path : FunD K "_law_path" "_law_path" (defArgs s_law_path) (defBody s_law_path) (defScope s_law_path) [] [] (He.ga K "_law_path") fd_law_path := F0_law_path
  have D_law_path : DefF K mg "_law_path" s_law_path ["_law_tape_here", "_law_names_here"] := defF_mk X G FF_law_path (c.fact 32 rfl) (fun _ _ _ _ _ _ us hl => match us, hl with | [_, _], _ => rfl)
  obtain ⟨fd_law_run, F0_law_run⟩ := c.fun_ 10 (d := dx_law_run) rfl
  have FF_law_run : FunD K "_law_run" "_law_run" (defArgs s_law_run) (defBody s_law_run) (defScope s_law_run) [] [] (He.ga K "_law_run") fd_law_run := F0_law_run
  have D_law_run : DefF K mg "_law_run" s_law_run ["_law_path_here", "_law_script_here"] := defF_mk X G FF_law_run (c.fact 33 rfl) (fun _ _ _ _ _ _ us hl => match us, hl with | [_, _], _ => rfl)
  obtain ⟨fd_law_equal, F0_law_equal⟩ := c.fun_ 11 (d := dx_law_equal) rfl
  have FF_law_equal : FunD K "_law_equal" "_law_equal" (defArgs s_law_equal) (defBody s_law_equal) (defScope s_law_equal) [] [] (He.ga K "_law_equal") fd_law_equal := F0_law_equal
  have D_law_equal : DefF K mg "_law_equal" s_law_equal ["_law_actual", "_law_expected"] := defF_mk X G FF_law_equal (c.fact 34 rfl) (fun _ _ _ _ _ _ us hl => match us, hl with | [_, _], _ => rfl)
  obtain ⟨fd_law_flat, F0_law_flat⟩ := c.fun_ 12 (d := dx_law_flat) rfl
  have FF_law_flat : FunD K "_law_flat" "_law_flat" (defArgs s_law_flat) (defBody s_law_flat) (defScope s_law_flat) [] [] (He.ga K "_law_flat") fd_law_flat := F0_law_flat
  have D_law_flat : DefF K mg "_law_flat" s_law_flat ["_law_steps"] := defF_mk X G FF_law_flat (c.fact 35 rfl) (fun _ _ _ _ _ _ us hl => match us, hl with | [_], _ => rfl)
  obtain ⟨fd_Live_redo, F0_Live_redo⟩ := c.fun_ 13 (d := dx_Live_redo) rfl
  have FF_Live_redo : FunD K "redo" "Live.redo" (defArgs s_Live_redo) (defBody s_Live_redo) (defScope s_Live_redo) [] [] (He.ma K (He.ga K "Live") "redo") fd_Live_redo := F0_Live_redo
  have D_Live_redo : MetF K (cAt K) 0 "redo" "Live.redo" s_Live_redo ["self"] := metF_mk rfl FF_Live_redo (c.fact 36 rfl) (c.fact 37 rfl) (fun _ _ _ _ _ _ us hl => match us, hl with | [_], _ => rfl)
  obtain ⟨fd_Live_after, F0_Live_after⟩ := c.fun_ 14 (d := dx_Live_after) rfl
  have FF_Live_after : FunD K "after" "Live.after" (defArgs s_Live_after) (defBody s_Live_after) (defScope s_Live_after) [] [] (He.ma K (He.ga K "Live") "after") fd_Live_after := F0_Live_after
  have D_Live_after : MetF K (cAt K) 0 "after" "Live.after" s_Live_after ["self", "current", "command"] := metF_mk rfl FF_Live_after (c.fact 36 rfl) (c.fact 38 rfl) (fun _ _ _ _ _ _ us hl => match us, hl with | [_, _, _], _ => rfl)
  obtain ⟨fd_Live_do_all, F0_Live_do_all⟩ := c.fun_ 15 (d := dx_Live_do_all) rfl
  have FF_Live_do_all : FunD K "do_all" "Live.do_all" (defArgs s_Live_do_all) (defBody s_Live_do_all) (defScope s_Live_do_all) [] [] (He.ma K (He.ga K "Live") "do_all") fd_Live_do_all := F0_Live_do_all
  have D_Live_do_all : MetF K (cAt K) 0 "do_all" "Live.do_all" s_Live_do_all ["self", "script"] := metF_mk rfl FF_Live_do_all (c.fact 36 rfl) (c.fact 39 rfl) (fun _ _ _ _ _ _ us hl => match us, hl with | [_, _], _ => rfl)
  obtain ⟨fd_Live_do, F0_Live_do⟩ := c.fun_ 16 (d := dx_Live_do) rfl
  have FF_Live_do : FunD K "do" "Live.do" (defArgs s_Live_do) (defBody s_Live_do) (defScope s_Live_do) [] [] (He.ma K (He.ga K "Live") "do") fd_Live_do := F0_Live_do
  have D_Live_do : MetF K (cAt K) 0 "do" "Live.do" s_Live_do ["self", "command"] := metF_mk rfl FF_Live_do (c.fact 36 rfl) (c.fact 40 rfl) (fun _ _ _ _ _ _ us hl => match us, hl with | [_, _], _ => rfl)
  obtain ⟨fd_Live_undo, F0_Live_undo⟩ := c.fun_ 17 (d := dx_Live_undo) rfl
  have FF_Live_undo : FunD K "undo" "Live.undo" (defArgs s_Live_undo) (defBody s_Live_undo) (defScope s_Live_undo) [] [] (He.ma K (He.ga K "Live") "undo") fd_Live_undo := F0_Live_undo
  have D_Live_undo : MetF K (cAt K) 0 "undo" "Live.undo" s_Live_undo ["self"] := metF_mk rfl FF_Live_undo (c.fact 36 rfl) (c.fact 41 rfl) (fun _ _ _ _ _ _ us hl => match us, hl with | [_], _ => rfl)
  obtain ⟨fd_law_deed, F0_law_deed⟩ := c.fun_ 18 (d := dx_law_deed) rfl
  have FF_law_deed : FunD K "_law_deed" "_law_deed" (defArgs s_law_deed) (defBody s_law_deed) (defScope s_law_deed) [] [] (He.ga K "_law_deed") fd_law_deed := F0_law_deed
  have D_law_deed : DefF K mg "_law_deed" s_law_deed ["_law_tape_here", "_law_live", "_law_state", "_law_names_here", "_law_shared"] := defF_mk X G FF_law_deed (c.fact 42 rfl) (fun _ _ _ _ _ _ us hl => match us, hl with | [_, _, _, _, _], _ => rfl)
  obtain ⟨fd_Live_init, F0_Live_init⟩ := c.fun_ 19 (d := dx_Live_init) rfl
  have FF_Live_init : FunD K "__init__" "Live.__init__" (defArgs s_Live_init) (defBody s_Live_init) (defScope s_Live_init) [] [("limit", (.int 40))] (He.ma K (He.ga K "Live") "__init__") fd_Live_init := F0_Live_init
  have D_Live_init : InitF K mg (cAt K) "Live" 0 "Live.__init__" s_Live_init ["self", "path", "limit"] [(.int 40)] := initF_mk0 X G 2 rfl FF_Live_init (c.fact 43 rfl) (c.fact 44 rfl) (by simp) rfl (fun _ => .cons (.int 40) .nil) (fun _ _ _ _ _ _ us ks l1 l2 => match us, ks, l1, l2 with | [_, _], [_], _, _ => ⟨_, _, _, _, _, _, rfl, rfl, rfl⟩)
  have DK_Live_init : InitK K mg (cAt K) "Live" 0 "Live.__init__" s_Live_init ["self", "path", "limit"] 1 ["limit"] := initK_mk X G 1 rfl FF_Live_init (c.fact 43 rfl) (c.fact 44 rfl) (by simp) (fun _ _ _ _ _ _ us ws l1 l2 => match us, ws, l1, l2 with | [_, _], [_], _, _ => rfl)
  obtain ⟨fd_Live_history, F0_Live_history⟩ := c.fun_ 20 (d := dx_Live_history) rfl
  have FF_Live_history : FunD K "history" "Live.history" (defArgs s_Live_history) (defBody s_Live_history) (defScope s_Live_history) [] [] (prG K "Live" "history") fd_Live_history := F0_Live_history
  have D_Live_history : PrpF K (cAt K) 0 "history" "Live.history" s_Live_history := prpF_mk rfl FF_Live_history (c.fact 36 rfl) (c.fact 45 rfl) (fun _ _ _ _ _ _ us hl => match us, hl with | [_], _ => rfl)
  obtain ⟨fd_Live_path, F0_Live_path⟩ := c.fun_ 21 (d := dx_Live_path) rfl
  have FF_Live_path : FunD K "path" "Live.path" (defArgs s_Live_path) (defBody s_Live_path) (defScope s_Live_path) [] [] (prG K "Live" "path") fd_Live_path := F0_Live_path
  have D_Live_path : PrpF K (cAt K) 0 "path" "Live.path" s_Live_path := prpF_mk rfl FF_Live_path (c.fact 36 rfl) (c.fact 46 rfl) (fun _ _ _ _ _ _ us hl => match us, hl with | [_], _ => rfl)
  obtain ⟨fd_law, F0_law⟩ := c.fun_ 22 (d := dx_law) rfl
  have FF_law : FunD K "law" "law" (defArgs s_law) (defBody s_law) (defScope s_law) [] [] (He.ga K "law") fd_law := F0_law
  have g_CHARS : GC K mg "CHARS" (.str "abcdefghijklmnopqrstuvwxyz0123456789./_") := gc_str X G (c.fact 47 rfl)
  have g_MOST_CHARS : GC K mg "MOST_CHARS" (.int 12) := gc_int X G (c.fact 48 rfl)
  have g_ABSENT : GC K mg "ABSENT" (.tuple [(.str "skip"), (.str "front"), (.str "back")]) := gc_tup X G (c.fact 49 rfl)
  have g_PRESENT : GC K mg "PRESENT" (.tuple [(.str "keep"), (.str "front"), (.str "back"), (.str "remove")]) := gc_tup X G (c.fact 50 rfl)
  have n_Live_current : ∀ c ∈ ([0] : List Nat), Cls K (cAt K c) ∧ NoAttr K (cAt K c) "current" := (fm_cons (noatt_mk rfl (c.fact 36 rfl) (c.fact 51 rfl)) fm_nil)
  have n_Live_done : ∀ c ∈ ([0] : List Nat), Cls K (cAt K c) ∧ NoAttr K (cAt K c) "done" := (fm_cons (noatt_mk rfl (c.fact 36 rfl) (c.fact 52 rfl)) fm_nil)
  have n_Live_undone : ∀ c ∈ ([0] : List Nat), Cls K (cAt K c) ∧ NoAttr K (cAt K c) "undone" := (fm_cons (noatt_mk rfl (c.fact 36 rfl) (c.fact 53 rfl)) fm_nil)
  have n_Live_most : ∀ c ∈ ([0] : List Nat), Cls K (cAt K c) ∧ NoAttr K (cAt K c) "most" := (fm_cons (noatt_mk rfl (c.fact 36 rfl) (c.fact 54 rfl)) fm_nil)
  have e_PathFull : ExcF K mg (cAt K) "PathFull" 16 := excF_mk X G rfl (c.fact 55 rfl) (c.fact 56 rfl)
  have e_InvalidCommand : ExcF K mg (cAt K) "InvalidCommand" 12 := excF_mk X G rfl (c.fact 57 rfl) (c.fact 58 rfl)
  have e_InvalidPath : ExcF K mg (cAt K) "InvalidPath" 11 := excF_mk X G rfl (c.fact 59 rfl) (c.fact 60 rfl)
  have e := hfa.symm.trans (He.glo_ok X G (c.fact 61 rfl))
  cases e
  have bA := FunD.bindsA (ps := ["_law_script_here"]) FF_law fun _ _ _ _ _ _ us hl => match us, hl with | [_], _ => rfl
  refine ⟨fd_law, c.fact 0 rfl, fun s v => bA s [v] rfl, fun base _ _ => ?_⟩
  have c_is_name := cal_is_name (P := rr.prog) (w := w) (base := base) (mg := mg) (cA := cAt K) (K := K) D_is_name bl g_CHARS g_MOST_CHARS
  have c_is_path := cal_is_path (P := rr.prog) (w := w) (base := base) (mg := mg) (cA := cAt K) (K := K) D_is_path bl c_is_name
  have c_is_command := cal_is_command (P := rr.prog) (w := w) (base := base) (mg := mg) (cA := cAt K) (K := K) D_is_command bl g_ABSENT g_PRESENT c_is_name
  have c_apply := cal_apply (P := rr.prog) (w := w) (base := base) (mg := mg) (cA := cAt K) (K := K) D_apply bl 
  have c_law_tape_C := cal_law_tape_C (P := rr.prog) (w := w) (base := base) (mg := mg) (cA := cAt K) (K := K) D_law_tape bl 
  have c_law_draw := cal_law_draw (P := rr.prog) (w := w) (base := base) (mg := mg) (cA := cAt K) (K := K) D_law_draw bl 
  have c_law_name := cal_law_name (P := rr.prog) (w := w) (base := base) (mg := mg) (cA := cAt K) (K := K) D_law_name bl c_law_draw
  have c_law_names := cal_law_names (P := rr.prog) (w := w) (base := base) (mg := mg) (cA := cAt K) (K := K) D_law_names bl c_law_draw c_law_name
  have c_law_script := cal_law_script (P := rr.prog) (w := w) (base := base) (mg := mg) (cA := cAt K) (K := K) D_law_script bl c_law_draw
  have c_law_script_C := cal_law_script_C (P := rr.prog) (w := w) (base := base) (mg := mg) (cA := cAt K) (K := K) D_law_script bl c_law_draw
  have c_law_path := cal_law_path (P := rr.prog) (w := w) (base := base) (mg := mg) (cA := cAt K) (K := K) D_law_path bl c_law_draw
  have c_law_run := cal_law_run (P := rr.prog) (w := w) (base := base) (mg := mg) (cA := cAt K) (K := K) D_law_run bl 
  have c_law_equal := cal_law_equal (P := rr.prog) (w := w) (base := base) (mg := mg) (cA := cAt K) (K := K) D_law_equal bl 
  have c_law_flat := cal_law_flat (P := rr.prog) (w := w) (base := base) (mg := mg) (cA := cAt K) (K := K) D_law_flat bl 
  have c_Live_redo := cal_Live_redo (P := rr.prog) (w := w) (base := base) (mg := mg) (cA := cAt K) (K := K) D_Live_redo bl n_Live_current n_Live_done n_Live_undone
  have c_Live_after := cal_Live_after (P := rr.prog) (w := w) (base := base) (mg := mg) (cA := cAt K) (K := K) D_Live_after bl n_Live_most e_PathFull c_apply c_is_command e_InvalidCommand
  have c_Live_do_all := cal_Live_do_all (P := rr.prog) (w := w) (base := base) (mg := mg) (cA := cAt K) (K := K) D_Live_do_all bl n_Live_current n_Live_undone n_Live_done c_Live_after
  have c_Live_do := cal_Live_do (P := rr.prog) (w := w) (base := base) (mg := mg) (cA := cAt K) (K := K) D_Live_do bl c_Live_do_all
  have c_Live_undo := cal_Live_undo (P := rr.prog) (w := w) (base := base) (mg := mg) (cA := cAt K) (K := K) D_Live_undo bl n_Live_current n_Live_undone n_Live_done
  have c_law_deed := cal_law_deed (P := rr.prog) (w := w) (base := base) (mg := mg) (cA := cAt K) (K := K) D_law_deed bl c_Live_redo c_Live_undo c_Live_do c_law_script c_Live_do_all c_law_draw
  have k_Live := cal_Live_init (P := rr.prog) (w := w) (base := base) (mg := mg) (cA := cAt K) (K := K) D_Live_init bl n_Live_undone n_Live_done n_Live_current n_Live_most e_PathFull c_is_path e_InvalidPath
  have kk_Live := cal_Live_init_K (P := rr.prog) (w := w) (base := base) (mg := mg) (cA := cAt K) (K := K) DK_Live_init bl n_Live_undone n_Live_done n_Live_current n_Live_most e_PathFull c_is_path e_InvalidPath
  have c_Live_history := cal_Live_history_C (P := rr.prog) (w := w) (base := base) (mg := mg) (cA := cAt K) (K := K) D_Live_history bl n_Live_done
  have c_Live_path := cal_Live_path_C (P := rr.prog) (w := w) (base := base) (mg := mg) (cA := cAt K) (K := K) D_Live_path bl n_Live_current
  exact ok_law FF_law bl c_law_run c_Live_path c_law_equal c_Live_history c_law_flat c_law_script c_law_deed c_law_draw c_law_tape_C kk_Live k_Live c_law_script_C c_law_path c_law_names
theorem topRun (w : World) : HandSHeadRun.RunEq rr (PySem.W.view rr.prog [34]) hk ob 6000 loose w := by
  intro os
  kernel_rfl
end G

set_option Elab.async false
set_option linter.all false
set_option maxRecDepth 100000
/-! PA: what the laws' own drawing defs do. -/
namespace G
open PySem PySem.Spec PyProof.Rows L2 DL
/-! ### memory -/
theorem size_set {M : Mem} {b b' : Bool} {i : Nat} {c : Cell} : (M.set b i c).size b' = M.size b' := by
  cases b <;> cases b' <;> simp [Mem.set, Mem.size]
theorem set_set {M : Mem} {b : Bool} {i : Nat} {c d : Cell} : (M.set b i c).set b i d = M.set b i d := by
  cases b <;> simp [Mem.set]
theorem set_self {α : Type} : ∀ {l : List α} {i : Nat} {c : α}, l[i]? = some c → l.set i c = l
  | [], _, _, h => by simp at h
  | x :: l, 0, c, h => by
    simp at h
    rw [h, List.set_cons_zero]
  | x :: l, i + 1, c, h => by
    rw [List.set_cons_succ, set_self (i := i) (by simpa using h)]
theorem set_same {M : Mem} {b : Bool} {i : Nat} {c : Cell} (h : M.at_ b i = some c) : M.set b i c = M := by
  obtain ⟨m, o⟩ := M
  cases b
  · simp only [Mem.set, Mem.mk.injEq, true_and]
    exact set_self h
  · simp only [Mem.set, Mem.mk.injEq, and_true]
    exact set_self h
theorem at_size {M : Mem} {b : Bool} {i : Nat} {c : Cell} (h : M.at_ b i = some c) : i < M.size b := by
  cases b
  · exact (List.getElem?_eq_some_iff.mp (show M.o[i]? = some c from h)).1
  · exact (List.getElem?_eq_some_iff.mp (show M.m[i]? = some c from h)).1
@[simp] theorem at_add_new {M : Mem} {b : Bool} {c : Cell} : (M.add b c).at_ b (M.size b) = some c := by
  cases b <;> simp [Mem.add, Mem.at_, Mem.size]
theorem at_add_old {M : Mem} {b b' : Bool} {i : Nat} {c d : Cell} (h : M.at_ b' i = some d) : (M.add b c).at_ b' i = some d := by
  have l := at_size h
  cases b <;> cases b' <;> simp only [Mem.add, Mem.at_, Mem.size] at * <;> first | exact h | (rw [List.getElem?_append_left l]; exact h)
theorem set_add_old {M : Mem} {b b' : Bool} {i : Nat} {c d : Cell} (h : i < M.size b') : (M.add b c).set b' i d = (M.set b' i d).add b c := by
  cases b <;> cases b' <;> simp only [Mem.add, Mem.set, Mem.size, Mem.mk.injEq, and_true, true_and] at * <;> first | trivial | (rw [List.set_append_left _ _ h])
theorem set_add_new {M : Mem} {b : Bool} {c d : Cell} : (M.add b c).set b (M.size b) d = M.add b d := by
  cases b <;> simp [Mem.add, Mem.set, Mem.size, List.set_append_right]
theorem cut_add {M : Mem} {c : Cell} : (M.add true c).cut M.m.length = M := by
  simp [Mem.add, Mem.cut]
theorem cut_self {M : Mem} : M.cut M.m.length = M := by
  simp [Mem.cut]
/-! ### the tape -/
abbrev tp (a s : Int) : Cell := .lst [.int a, .int s]
def Td (a s : Int) : Prop := 0 ≤ s ∧ s < 998244353
def TA (i : Nat) (M : Mem) : Prop := ∃ a s, M.at_ true i = some (tp a s) ∧ Td a s
def TM (i : Nat) (M M' : Mem) : Prop := ∃ a s, M' = M.set true i (tp a s) ∧ Td a s
theorem TM.refl {i : Nat} {M : Mem} (h : TA i M) : TM i M M := by
  obtain ⟨a, s, h, d⟩ := h
  exact ⟨a, s, (set_same h).symm, d⟩
theorem TM.ta {i : Nat} {M M' : Mem} (h : TM i M M') (t : TA i M) : TA i M' := by
  obtain ⟨a, s, rfl, d⟩ := h
  obtain ⟨a', s', h', _⟩ := t
  exact ⟨a, s, Mem.at_set_self h', d⟩
theorem TM.trans {i : Nat} {M M' M'' : Mem} (h : TM i M M') (h' : TM i M' M'') : TM i M M'' := by
  obtain ⟨a, s, rfl, d⟩ := h
  obtain ⟨a', s', rfl, d'⟩ := h'
  exact ⟨a', s', set_set, d'⟩
theorem TM.size {i : Nat} {M M' : Mem} (h : TM i M M') (b : Bool) : M'.size b = M.size b := by
  obtain ⟨a, s, rfl, d⟩ := h
  exact size_set
theorem TM.len {i : Nat} {M M' : Mem} (h : TM i M M') : M'.m.length = M.m.length := h.size true
theorem TM.at_ {i : Nat} {M M' : Mem} (h : TM i M M') {b : Bool} {j : Nat} (n : ¬ (true = b ∧ i = j)) : M'.at_ b j = M.at_ b j := by
  obtain ⟨a, s, rfl, d⟩ := h
  exact Mem.at_set_ne n
theorem TA.add {i : Nat} {M : Mem} (h : TA i M) (b : Bool) (c : Cell) : TA i (M.add b c) := by
  obtain ⟨a, s, h, d⟩ := h
  exact ⟨a, s, at_add_old h, d⟩
theorem TM.add {i : Nat} {M M' : Mem} {b : Bool} {c : Cell} (t : TA i M) (h : TM i (M.add b c) M') : ∃ M0, TM i M M0 ∧ M' = M0.add b c := by
  obtain ⟨a, s, rfl, d⟩ := h
  obtain ⟨a', s', h', _⟩ := t
  exact ⟨_, ⟨a, s, rfl, d⟩, set_add_old (at_size h')⟩
theorem TA.lt {i : Nat} {M : Mem} (t : TA i M) : i < M.m.length := by
  obtain ⟨a, s, h, _⟩ := t
  exact at_size h
theorem TM.cut {i : Nat} {M M' : Mem} (h : TM i M M') : M'.cut M.m.length = M' := by
  rw [← h.len]
  exact cut_self
section
variable {M : Mem} {E : XE} {i : Nat} {Q : Dt → Mem → Prop}
theorem atI0 {x : PyData} {l : List PyData} : atI (x :: l) 0 = some x := by simp [atI, ixN]
theorem atI1 {x y : PyData} {l : List PyData} : atI (x :: y :: l) 1 = some y := by
  have h : ((1 : Int) < (l.length : Int) + 1 + 1) := by omega
  simp [atI, ixN, h]
theorem ixN0 {n : Nat} : ixN (n + 1) 0 = some 0 := by simp [ixN]
theorem ixN1 {n : Nat} : ixN (n + 1 + 1) 1 = some 1 := by simp [ixN]; omega
theorem seq_cell {b : Bool} {j : Nat} {ds : List PyData} (h : M.at_ b j = some (.lst ds)) : seqOf M (.cell b j) = some ds := by simp [seqOf, lstOf, h]
theorem lst_cell {b : Bool} {j : Nat} {ds : List PyData} (h : M.at_ b j = some (.lst ds)) : lstOf M (.cell b j) = some ds := by simp [lstOf, h]
theorem wp_draw {n : Int} (t : TA i M) (h0 : 0 < n) (h1 : n < 1073741824) (q : ∀ (r : Int) (M' : Mem), 0 ≤ r → r < n → TM i M M' → Q (.p (.int r)) M') : (F_law_draw [.cell true i, .p (.int n)] M).wp Q E := by
  obtain ⟨a, s, e, d1, d2⟩ := t
  unfold F_law_draw b_law_draw
  simp [startS]
  refine wp_ixL (seq_cell e) atI0 ?_
  try simp
  refine Br.dec (fun ha => ?_) (fun ha => ?_)
  · refine wp_ixL (seq_cell e) atI0 ?_
    simp [h0]
    refine wp_ixL (seq_cell e) atI0 ?_
    simp [CDiv, h0, h1]
    refine wp_setIx e ixN0 ?_
    have z : TM i M (M.set true i (tp (a / n) s)) := ⟨_, _, rfl, d1, d2⟩
    try simp
    rw [z.cut]
    exact q _ _ (Int.emod_nonneg _ (by omega)) (Int.emod_lt_of_pos _ h0) z
  · refine wp_ixL (seq_cell e) atI1 ?_
    try simp
    refine wp_ixL (seq_cell e) atI1 ?_
    try simp
    refine ⟨.inl (by omega), ?_⟩
    refine wp_ixL (seq_cell e) atI1 ?_
    try simp
    refine ⟨.inl (by omega), ?_⟩
    refine wp_setIx e ixN1 ?_
    try simp
    have nn := Int.emod_nonneg (s * s + 7 * s + 40503) (show (998244353 : Int) ≠ 0 by omega)
    have ln := Int.emod_lt_of_pos (s * s + 7 * s + 40503) (show (0 : Int) < 998244353 by omega)
    have z : TM i M (M.set true i (tp a ((s * s + 7 * s + 40503) % 998244353))) := ⟨_, _, rfl, nn, ln⟩
    refine wp_ixL (seq_cell (Mem.at_set_self e)) atI1 ?_
    try simp
    refine ⟨.inl (by omega), ?_⟩
    simp [CDiv, h0]
    rw [z.cut]
    exact q _ _ (Int.emod_nonneg _ (by omega)) (Int.emod_lt_of_pos _ h0) z
theorem wp_tape {n m : Int} (q : ∀ a s, Td a s → Q (.cell true M.m.length) (M.add true (tp a s))) : (F_law_tapeC [.p (.int n), .p (.int m)] M).wp Q E := by
  unfold F_law_tapeC b_law_tape
  simp [startS]
  refine ⟨.inr (by omega), .inr (by omega), ?_⟩
  simp [CPow, sizeLine]
  refine wp_outC_c (Nat.le_refl _) at_add_new ?_
  rw [cut_add]
  exact q _ _ ⟨Int.emod_nonneg _ (by omega), Int.emod_lt_of_pos _ (by omega)⟩
end
end G

set_option Elab.async false
set_option linter.all false
set_option maxRecDepth 100000
/-! PB: the laws' names. -/
namespace G
open PySem PySem.Spec PyProof.Rows L2 DL
def cl (z : Str) : List Nat := z.cps.toList
@[simp] theorem cl_mk (l : List Nat) : cl ⟨l.toArray⟩ = l := rfl
theorem len_cl (z : Str) : z.length = (cl z).length := by simp [Str.length, cl]
theorem cl_app (x y : Str) : cl (x ++ y) = cl x ++ cl y := by
  show (x.cps ++ y.cps).toList = _
  simp [cl]
theorem cl_cut (z : Str) (lo hi : Option Int) : cl (cutS z lo hi) = ((cl z).drop (HT.sIx z.length 0 lo)).take (HT.sIx z.length z.length hi - HT.sIx z.length 0 lo) := by simp [cutS, cl]
theorem str_ext {x y : Str} (h : cl x = cl y) : x = y := by
  obtain ⟨x⟩ := x
  obtain ⟨y⟩ := y
  congr
  exact Array.toList_inj.mp (show x.toList = y.toList from h)
abbrev CH : Str := "abcdefghijklmnopqrstuvwxyz0123456789./_"
structure Nm (z : Str) : Prop where
  lo : 1 ≤ (cl z).length
  hi : (cl z).length ≤ 12
  ch : ∀ c ∈ cl z, c ∈ cl CH
theorem atI_get {ds : List PyData} {k : Int} (h0 : 0 ≤ k) (h1 : k < ds.length) : ∃ d, atI ds k = some d ∧ ds[k.toNat]? = some d ∧ d ∈ ds := by
  have l : k.toNat < ds.length := by omega
  refine ⟨ds[k.toNat], ?_, List.getElem?_eq_getElem l, List.getElem_mem l⟩
  simp [atI, ixN, h0, h1]
theorem atN_get {ds : List Nat} {k : Int} (h0 : 0 ≤ k) (h1 : k < ds.length) : ∃ d, atI ds k = some d ∧ d ∈ ds := by
  have l : k.toNat < ds.length := by omega
  refine ⟨ds[k.toNat], ?_, List.getElem_mem l⟩
  simp [atI, ixN, h0, h1]
theorem joinL_one : ∀ cs : List Nat, TL.joinL [] (cs.map fun c => [c]) = cs
  | [] => rfl
  | [c] => rfl
  | c :: d :: ds => by
    have ih := joinL_one (d :: ds)
    simp only [List.map_cons, TL.joinL] at ih ⊢
    rw [ih]
    rfl
theorem join_nil (cs : List Nat) : Txt.join ("" : Str) (cs.map fun c => (⟨#[c]⟩ : Str)) = ⟨cs.toArray⟩ := by
  have h := SX.join_S [] (cs.map fun c => [c])
  rw [List.map_map, joinL_one] at h
  exact h
theorem strs_map (ss : List Str) : strsOf (ss.map PyData.str) = some ss := by
  induction ss with
  | nil => rfl
  | cons s ss ih => simp [strsOf, ih]
section
variable {M : Mem} {E : XE} {i : Nat} {Q : Dt → Mem → Prop}
theorem wp_name (t : TA i M) (q : ∀ (z : Str) (M' : Mem), Nm z → TM i M M' → Q (.p (.str z)) M') : (F_law_name [.cell true i] M).wp Q E := by
  unfold F_law_name b_law_name
  simp [startS]
  refine wp_draw t (by omega) (by omega) fun r M1 r0 r1 t1 => ?_
  simp [sizeLine]
  refine wp_draw (t1.ta t) (by omega) (by omega) fun k M2 k0 k1 t2 => ?_
  obtain ⟨d, e, _, hd⟩ := atI_get (ds := [.int 1, .int 1, .int 2, .int 3, .int (1 + r), .int 12]) k0 (by simpa using k1)
  obtain ⟨n, rfl, n1, n2⟩ : ∃ n : Int, d = .int n ∧ 1 ≤ n ∧ n ≤ 12 := by
    simp at hd
    rcases hd with rfl | rfl | rfl | rfl | rfl <;> exact ⟨_, rfl, by omega, by omega⟩
  refine wp_ixL rfl e ?_
  simp [DL.strOf, intOf]
  refine ⟨by omega, by omega, ?_⟩
  have t12 := t1.trans t2
  refine wp_lcL (fun rest acc M' => TM i M M' ∧ ∃ cs : List Nat, acc = cs.map (fun c => PyData.str ⟨#[c]⟩) ∧ (∀ c ∈ cs, c ∈ cl CH) ∧ cs.length + rest.length = n.toNat) ?_ ?_ _ _ _ ⟨t12, [], rfl, by simp, by simp [rgItems]⟩
  · rintro d ds acc M' ⟨tm, cs, rfl, hc, hl⟩
    simp [gN, wipeS, aYes]
    refine wp_draw (tm.ta t) (by omega) (by omega) fun j M3 j0 j1 t3 => ?_
    obtain ⟨c, ec, hcm⟩ := atN_get (ds := cl CH) j0 (by
      have : (cl CH).length = 39 := by decide +kernel
      omega)
    refine wp_ixS ec (by decide +kernel) ⟨_, rfl, ?_, intact_none, tm.trans t3, cs ++ [c], by simp, ?_, ?_⟩
    · simp at hl
      simp [sizeLine]
      omega
    · intro x hx
      rcases List.mem_append.mp hx with h | h
      · exact hc x h
      · simp at h
        rw [h]
        exact hcm
    · simp at hl ⊢
      omega
  · rintro acc M' ⟨tm, cs, rfl, hc, hl⟩
    refine ⟨_, rfl, cs.map fun c => (⟨#[c]⟩ : Str), ?_, ?_, ?_⟩
    · rw [← strs_map, List.map_map]
      rfl
    · have : ∀ cs : List Nat, ((cs.map fun c => (⟨#[c]⟩ : Str)).map (·.length)).sum = cs.length := fun cs => by
        induction cs with
        | nil => rfl
        | cons c cs ih =>
          simp only [List.map_cons, List.sum_cons, ih, List.length_cons]
          simp [Str.length]
          omega
      rw [this]
      simp at hl
      have e0 : ("" : Str).length = 0 := rfl
      simp [e0]
      omega
    · rw [join_nil, tm.cut]
      simp at hl
      exact q _ _ ⟨by simp; omega, by simp; omega, by simpa using hc⟩ tm
end
/-! ### several names -/
structure Ns (ns : List Str) : Prop where
  ne : ns ≠ []
  nd : ns.Nodup
  nm : ∀ z ∈ ns, Nm z
abbrev dS (ns : List Str) : List PyData := ns.map PyData.str
theorem any_S (ns : List Str) (z : Str) : (dS ns).any (fun y => PyData.eqv y (.str z)) = decide (z ∈ ns) := by
  induction ns with
  | nil => simp
  | cons n ns ih =>
    have e : PyData.eqv (.str n) (.str z) = decide (n = z) := by
      simp only [PyData.eqv]
      exact Bool.beq_eq_decide_eq _ _
    simp only [dS, List.map_cons, List.any_cons, e] at ih ⊢
    rw [ih]
    by_cases h : n = z
    · simp [h]
    · have h' : ¬ z = n := fun e => h e.symm
      simp [h, h']
theorem flat_S (ns : List Str) : (dS ns).all flatP = true := by
  induction ns with
  | nil => rfl
  | cons n ns ih => simp [dS, flatP]
theorem mem_S {d : PyData} {ns : List Str} (h : d ∈ dS ns) : ∃ z, d = .str z ∧ z ∈ ns := by
  obtain ⟨z, h1, h2⟩ := List.mem_map.mp h
  exact ⟨z, h2.symm, h1⟩
theorem sIx_none {n d : Nat} : HT.sIx n d none = d := rfl
theorem sIx_nat {n d : Nat} {v : Int} (h : 0 ≤ v) : HT.sIx n d (some v) = min v.toNat n := by
  have : ¬ v < 0 := by omega
  simp [HT.sIx, this]
theorem Nm.of {z : Str} {l : List Nat} (e : cl z = l) (h1 : 1 ≤ l.length) (h2 : l.length ≤ 12) (h3 : ∀ c ∈ l, c ∈ cl CH) : Nm z := ⟨e ▸ h1, e ▸ h2, e ▸ h3⟩
theorem cut_ch {z : Str} {a b : Nat} (h : Nm z) : ∀ c ∈ ((cl z).drop a).take b, c ∈ cl CH := fun c hc => h.ch c (List.mem_of_mem_drop (List.mem_of_mem_take hc))
theorem nm_1 {x y : Str} {k : Int} (hx : Nm x) (hy : Nm y) (k0 : 0 ≤ k) (k1 : k < x.length) : Nm (cutS x none (some k) ++ cutS y none (some 1) ++ cutS x (some (k + 1)) none) := by
  have lx := len_cl x
  have ly := len_cl y
  have h1 := hx.lo
  have h2 := hx.hi
  have h3 := hy.lo
  refine .of (by rw [cl_app, cl_app, cl_cut, cl_cut, cl_cut]) ?_ ?_ ?_
  · rw [sIx_none, sIx_none, sIx_none, sIx_nat k0, sIx_nat (by omega), sIx_nat (by omega)]
    simp only [List.length_append, List.length_take, List.length_drop]
    omega
  · rw [sIx_none, sIx_none, sIx_none, sIx_nat k0, sIx_nat (by omega), sIx_nat (by omega)]
    simp only [List.length_append, List.length_take, List.length_drop]
    omega
  · intro c hc
    rcases List.mem_append.mp hc with hc | hc
    · rcases List.mem_append.mp hc with hc | hc
      · exact cut_ch hx c hc
      · exact cut_ch hy c hc
    · exact cut_ch hx c hc
theorem nm_2 {x y : Str} (hx : Nm x) (hy : Nm y) : Nm (cutS (x ++ y) none (some 12)) := by
  have h1 := hx.lo
  refine .of (by rw [cl_cut, cl_app]) ?_ ?_ ?_
  · rw [sIx_none, sIx_nat (by omega), len_cl, cl_app]
    simp only [List.length_append, List.length_take, List.length_drop]
    omega
  · rw [sIx_none, sIx_nat (by omega), len_cl, cl_app]
    simp only [List.length_append, List.length_take, List.length_drop]
    omega
  · intro c hc
    rcases List.mem_append.mp (List.mem_of_mem_drop (List.mem_of_mem_take hc)) with h | h
    · exact hx.ch c h
    · exact hy.ch c h
theorem nm_3 {x y : Str} (hx : Nm x) (hy : Nm y) : Nm (cutS x none (some (-1)) ++ cutS y none (some 1)) := by
  have lx := len_cl x
  have ly := len_cl y
  have h1 := hx.lo
  have h2 := hx.hi
  have h3 := hy.lo
  have e : HT.sIx x.length x.length (some (-1)) = x.length - 1 := by
    simp [HT.sIx]
    omega
  refine .of (by rw [cl_app, cl_cut, cl_cut]) ?_ ?_ ?_
  · rw [sIx_none, sIx_none, e, sIx_nat (by omega)]
    simp only [List.length_append, List.length_take, List.length_drop]
    omega
  · rw [sIx_none, sIx_none, e, sIx_nat (by omega)]
    simp only [List.length_append, List.length_take, List.length_drop]
    omega
  · intro c hc
    rcases List.mem_append.mp hc with hc | hc
    · exact cut_ch hx c hc
    · exact cut_ch hy c hc
theorem nm_4 {x y : Str} (hx : Nm x) (hy : Nm y) : Nm (cutS y none (some 1) ++ cutS x none (some 11)) := by
  have lx := len_cl x
  have ly := len_cl y
  have h1 := hx.lo
  have h2 := hx.hi
  have h3 := hy.lo
  refine .of (by rw [cl_app, cl_cut, cl_cut]) ?_ ?_ ?_
  · rw [sIx_none, sIx_none, sIx_nat (by omega), sIx_nat (by omega)]
    simp only [List.length_append, List.length_take, List.length_drop]
    omega
  · rw [sIx_none, sIx_none, sIx_nat (by omega), sIx_nat (by omega)]
    simp only [List.length_append, List.length_take, List.length_drop]
    omega
  · intro c hc
    rcases List.mem_append.mp hc with hc | hc
    · exact cut_ch hy c hc
    · exact cut_ch hx c hc
theorem cut_le (z : Str) (lo hi : Option Int) : (cutS z lo hi).length ≤ z.length := by
  rw [len_cl, cl_cut, len_cl]
  simp only [List.length_take, List.length_drop]
  omega
theorem Nm.len {z : Str} (h : Nm z) : z.length ≤ 12 := by
  rw [len_cl]
  exact h.hi
theorem Nm.len1 {z : Str} (h : Nm z) : 1 ≤ z.length := by
  rw [len_cl]
  exact h.lo
theorem len_app (x y : Str) : (x ++ y).length = x.length + y.length := by
  rw [len_cl, cl_app, List.length_append, len_cl, len_cl]
theorem Nm.shaped {z : Str} (h : Nm z) : SeqAt.shaped (.str z) = true := by
  have := h.len
  have z2 := h.ch
  simp [SeqAt.shaped, PyData.canLay0, PyData.depth, sizeLine, PyData.strOk]
  intro j hj
  have hm : z.cps[j] ∈ cl z := by simp [cl]
  have hc := z2 _ hm
  have : ∀ c ∈ cl CH, c < 1114112 := by decide +kernel
  exact this _ hc
section
variable {M : Mem} {E : XE} {i : Nat} {Q : Dt → Mem → Prop}
def INm (i : Nat) (M : Mem) (n : Int) (k : Nat) (s : SS) (M' : Mem) : Prop := ∃ M0 ns x3 x4 x5 x6 x7, TM i M M0 ∧ M' = M0.add true (.lst (dS ns)) ∧ Ns ns ∧ ns.length + k ≤ n.toNat ∧ s = [some (.cell true i), some (.p (.int n)), some (.cell true M.m.length), x3, x4, x5, x6, x7]
theorem wp_names {n : Int} (t : TA i M) (n0 : 1 ≤ n) (n1 : n ≤ 1000) (q : ∀ (ns : List Str) (M' : Mem), Ns ns → (ns.length : Int) ≤ n → TM i M M' → Q (.p (.list (dS ns))) M') : (F_law_names [.cell true i, .p (.int n)] M).wp Q E := by
  unfold F_law_names b_law_names
  simp [startS]
  refine wp_name t fun z M1 hz t1 => ?_
  simp [sizeLine, intOf]
  refine ⟨by omega, by omega, ?_⟩
  refine wp_forL (fun rest s M' => INm i M n rest.length s M') ?_ ?_ _ _ _ ⟨M1, [z], none, none, none, none, none, t1, rfl, ⟨by simp, by simp, by simpa using hz⟩, by simp [rgItems]; omega, by rw [show M1.size true = M.m.length from t1.len]⟩
  · rintro d ds s M' ⟨M0, ns, x3, x4, x5, x6, x7, t0, rfl, hns, hl, rfl⟩
    simp [gN]
    have ta0 := t0.ta t
    have lk : M0.size true = M.m.length := t0.len
    refine wp_name (ta0.add _ _) fun y M2 hy t2 => ?_
    obtain ⟨M3, t3, rfl⟩ := t2.add ta0
    simp
    refine wp_draw ((t3.ta ta0).add _ _) (by omega) (by omega) fun r M4 r0 r1 t4 => ?_
    obtain ⟨M5, t5, rfl⟩ := t4.add (t3.ta ta0)
    simp
    have t05 := (t0.trans t3).trans t5
    have ta5 := t05.ta t
    have lk5 : M5.size true = M.m.length := t05.len
    have lt5 : i < M5.size true := by
      have := ta5.lt
      exact this
    -- the name is taken in, or not
    have fin : ∀ (y : Str) (M6 : Mem) (x5 x6 x7 : Option Dt), Nm y → TM i M M6 → (aIfS (aB (aOp (inD true) (aVar 4) (aVar 2))) (aDrop (aML appendD (aVar 2) (aCons (aVar 4) aNil))) aNext [some (.cell true i), some (.p (.int n)), some (.cell true M.m.length), some (.p d), some (.p (.str y)), x5, x6, x7] (M6.add true (.lst (dS ns)))).wp (fun x M2 => match x with
      | .nx s2 => Intact none (M1.add true (Cell.lst [PyData.str z])) M2 ∧ INm i M n ds.length s2 M2
      | _ => False) (fun c MM => E c (MM.cut M.m.length)) := by
      intro y M6 x5 x6 x7 hy t6
      have lk6 : M6.size true = M.m.length := t6.len
      have at6 : (M6.add true (.lst (dS ns))).at_ true M.m.length = some (.lst (dS ns)) := by
        rw [← lk6]
        exact at_add_new
      simp
      refine wp_in (seq_cell at6) rfl (flat_S ns) ?_
      rw [any_S]
      simp
      have l3 : ns.length + ds.length + 1 ≤ n.toNat := by
        simp at hl
        omega
      refine Br.dec (fun h => ?_) (fun h => ?_)
      · exact ⟨intact_none, M6, ns, _, _, _, _, _, t6, rfl, hns, by omega, rfl⟩
      · refine ⟨by rw [lst_cell at6]; rfl, ?_⟩
        refine wp_append at6 (by simp [sizeLine]; omega) ⟨intact_none, M6, ns ++ [y], _, _, _, _, _, t6, ?_, ⟨by simp, ?_, ?_⟩, by simp; omega, rfl⟩
        · rw [← lk6, set_add_new]
          simp
        · rw [List.nodup_append]
          refine ⟨hns.nd, by simp, ?_⟩
          intro a ha b hb
          simp at hb
          subst hb
          intro e
          exact h (e ▸ ha)
        · intro z hz
          rcases List.mem_append.mp hz with hz | hz
          · exact hns.nm z hz
          · simp at hz
            rw [hz]
            exact hy
    refine Br.dec (fun h => ?_) (fun h => ?_)
    · have at5 : (M5.add true (.lst (dS ns))).at_ true M.m.length = some (.lst (dS ns)) := by
        rw [← lk5]
        exact at_add_new
      have ln : 1 ≤ ns.length := by
        have := hns.ne
        cases ns
        · exact absurd rfl this
        · simp
      have lm : ns.length ≤ 1000 := by
        simp at hl
        omega
      refine wp_len (seq_cell at5) ?_
      refine wp_draw (ta5.add _ _) (by simp; omega) (by simp; omega) fun k M6 k0 k1 t6 => ?_
      obtain ⟨M7, t7, rfl⟩ := t6.add ta5
      have t07 := t05.trans t7
      have ta7 := t07.ta t
      have at7 : (M7.add true (.lst (dS ns))).at_ true M.m.length = some (.lst (dS ns)) := by
        rw [← show M7.size true = M.m.length from t07.len]
        exact at_add_new
      obtain ⟨d0, e0, _, m0⟩ := atI_get k0 k1
      obtain ⟨b, rfl, hb⟩ := mem_S m0
      have nb := hns.nm b hb
      have b1 := nb.len1
      have b12 := nb.len
      have y1 := hy.len1
      have y12 := hy.len
      refine wp_ixL (seq_cell at7) e0 ?_
      simp [sizeLine]
      refine ⟨by omega, ?_⟩
      refine wp_draw (ta7.add _ _) (by omega) (by omega) fun j M8 j0 j1 t8 => ?_
      obtain ⟨M9, t9, rfl⟩ := t8.add ta7
      have t09 := t07.trans t9
      have ta9 := t09.ta t
      simp [sizeLine, len_app]
      have c1 := cut_le b none (some j)
      have c2 := cut_le y none (some 1)
      have c3 := cut_le b (some (j + 1)) none
      have c4 := cut_le b none (some (-1))
      have c5 := cut_le b none (some 11)
      refine ⟨by omega, by omega, by omega, by omega, by omega, by omega, by omega, by omega, by omega, by omega, by omega, by omega, ?_⟩
      refine wp_draw (ta9.add _ _) (by omega) (by omega) fun w M10 w0 w1 t10 => ?_
      obtain ⟨M11, t11, rfl⟩ := t10.add ta9
      obtain ⟨d2, e2, _, m2⟩ := atI_get (ds := [.str (cutS b none (some j) ++ cutS y none (some 1) ++ cutS b (some (j + 1)) none), .str (cutS (b ++ y) none (some 12)), .str (cutS b none (some (-1)) ++ cutS y none (some 1)), .str (cutS y none (some 1) ++ cutS b none (some 11))]) w0 (by simpa using w1)
      refine wp_ixL rfl e2 ?_
      obtain ⟨y2, rfl, hy2⟩ : ∃ y2, d2 = .str y2 ∧ Nm y2 := by
        simp at m2
        rcases m2 with rfl | rfl | rfl | rfl
        · exact ⟨_, rfl, nm_1 nb hy j0 j1⟩
        · exact ⟨_, rfl, nm_2 nb hy⟩
        · exact ⟨_, rfl, nm_3 nb hy⟩
        · exact ⟨_, rfl, nm_4 nb hy⟩
      simpa using fin y2 M11 (some (.p (.str b))) (some (.p (.int j))) (some (.p (.list [.str (cutS b none (some j) ++ cutS y none (some 1) ++ cutS b (some (j + 1)) none), .str (cutS (b ++ y) none (some 12))]))) hy2 (t09.trans t11)
    · simpa using fin y M5 x5 x6 x7 hy t05
  · rintro s M' ⟨M0, ns, x3, x4, x5, x6, x7, t0, rfl, hns, hl, rfl⟩
    simp
    have lk : M0.size true = M.m.length := t0.len
    refine wp_outD_c (Nat.le_refl _) (by rw [← lk]; exact at_add_new) ?_
    have e : (M0.add true (.lst (dS ns))).cut M.m.length = M0 := by
      rw [← t0.len]
      exact cut_add
    rw [e]
    exact q ns M0 hns (by simp at hl; omega) t0
end
end G

set_option Elab.async false
set_option linter.all false
set_option maxRecDepth 100000
/-! PC: commands, scripts, paths, runs. -/
namespace G
open PySem PySem.Spec PyProof.Rows L2 DL
abbrev Cm := Str × Str × Str
def PRES : List Str := ["keep", "front", "back", "remove"]
def ABS : List Str := ["skip", "front", "back"]
def dC (c : Cm) : PyData := .tuple [.str c.1, .str c.2.1, .str c.2.2]
structure CmOk (ns : List Str) (c : Cm) : Prop where
  n : c.1 ∈ ns
  p : c.2.1 ∈ PRES
  a : c.2.2 ∈ ABS
abbrev dCs (cs : List Cm) : List PyData := cs.map dC
def act (p : List Str) (c : Cm) : Str := if c.1 ∈ p then c.2.1 else c.2.2
def rmv (p : List Str) (x : Str) : List Str := p.filter fun z => decide (z ≠ x)
def stp (p : List Str) (c : Cm) : List Str :=
  if act p c = "front" then c.1 :: rmv p c.1 else if act p c = "back" then rmv p c.1 ++ [c.1] else if act p c = "remove" then rmv p c.1 else p
def run (p : List Str) (cs : List Cm) : List Str := cs.foldl stp p
/-- a path over ns -/
structure PathOk (ns p : List Str) : Prop where
  nd : p.Nodup
  sub : ∀ z ∈ p, z ∈ ns
theorem rmv_nd {p : List Str} {x : Str} (h : p.Nodup) : (rmv p x).Nodup := h.filter _
theorem mem_rmv {p : List Str} {x z : Str} : z ∈ rmv p x ↔ z ∈ p ∧ z ≠ x := by simp [rmv]
theorem PathOk.stp {ns p : List Str} {c : Cm} (h : PathOk ns p) (hc : c.1 ∈ ns) : PathOk ns (stp p c) := by
  unfold G.stp
  split
  · refine ⟨List.nodup_cons.mpr ⟨fun z => (mem_rmv.mp z).2 rfl, rmv_nd h.nd⟩, fun z hz => ?_⟩
    rcases List.mem_cons.mp hz with rfl | hz
    · exact hc
    · exact h.sub z (mem_rmv.mp hz).1
  · split
    · refine ⟨?_, fun z hz => ?_⟩
      · rw [List.nodup_append]
        refine ⟨rmv_nd h.nd, by simp, fun a ha b hb => ?_⟩
        simp at hb
        subst hb
        exact (mem_rmv.mp ha).2
      · rcases List.mem_append.mp hz with hz | hz
        · exact h.sub z (mem_rmv.mp hz).1
        · simp at hz
          rw [hz]
          exact hc
    · split
      · exact ⟨rmv_nd h.nd, fun z hz => h.sub z (mem_rmv.mp hz).1⟩
      · exact h
theorem PathOk.run {ns : List Str} : ∀ {cs : List Cm} {p : List Str}, PathOk ns p → (∀ c ∈ cs, c.1 ∈ ns) → PathOk ns (run p cs)
  | [], _, h, _ => h
  | c :: cs, p, h, hc => PathOk.run (cs := cs) (h.stp (hc c (by simp))) fun d hd => hc d (by simp [hd])
theorem PathOk.len {ns p : List Str} (h : PathOk ns p) : p.length ≤ ns.length := by
  exact h.nd.length_le_of_subset fun z hz => h.sub z hz
theorem shp {z : Str} (h : z ∈ PRES ∨ z ∈ ABS) : SeqAt.shaped (.str z) = true := by
  simp [PRES, ABS] at h
  rcases h with (rfl | rfl | rfl | rfl) | (rfl | rfl | rfl) <;> decide +kernel
theorem shp_act {ns p : List Str} {c : Cm} (h : CmOk ns c) : SeqAt.shaped (.str (act p c)) = true := by
  unfold act
  split
  · exact shp (.inl h.p)
  · exact shp (.inr h.a)
theorem shp_w {z : Str} (h : z ∈ (["front", "back", "remove", "keep", "skip"] : List Str)) : SeqAt.shaped (.str z) = true := by
  simp at h
  rcases h with rfl | rfl | rfl | rfl | rfl <;> decide +kernel
section
variable {M : Mem} {E : XE} {i : Nat} {Q : Dt → Mem → Prop}
theorem at_new {M0 : Mem} {c : Cell} (t : TM i M M0) : (M0.add true c).at_ true M.m.length = some c := by
  rw [← show M0.size true = M.m.length from t.len]
  exact at_add_new
theorem set_new {M0 : Mem} {c d : Cell} (t : TM i M M0) : (M0.add true c).set true M.m.length d = M0.add true d := by
  rw [← show M0.size true = M.m.length from t.len]
  exact set_add_new
theorem cut_new {M0 : Mem} {c : Cell} (t : TM i M M0) : (M0.add true c).cut M.m.length = M0 := by
  rw [← t.len]
  exact cut_add
/-! ### a script -/
def ISc (i : Nat) (M : Mem) (ns : List Str) (n : Int) (k : Nat) (s : SS) (M' : Mem) : Prop := ∃ M0 cs x4 x5 x6, TM i M M0 ∧ M' = M0.add true (.lst (dCs cs)) ∧ (∀ c ∈ cs, CmOk ns c) ∧ cs.length + k = n.toNat ∧ s = [some (.cell true i), some (.p (.list (dS ns))), some (.p (.int n)), some (.cell true M.m.length), x4, x5, x6]
theorem b_script {QF : Fl → Mem → Prop} {ns : List Str} {n : Int} (t : TA i M) (hns : Ns ns) (hl : ns.length ≤ 1000) (n0 : 0 ≤ n) (n1 : n ≤ 1000) (q : ∀ (cs : List Cm) (M0 : Mem), TM i M M0 → (∀ c ∈ cs, CmOk ns c) → cs.length = n.toNat → QF (.rt (.cell true M.m.length)) (M0.add true (.lst (dCs cs)))) : (b_law_script (startS 7 [.cell true i, .p (.list (dS ns)), .p (.int n)]) M).wp QF E := by
  unfold b_law_script
  have ln : 1 ≤ ns.length := by
    have := hns.ne
    cases ns
    · exact absurd rfl this
    · simp
  simp [startS, sizeLine]
  refine ⟨by omega, by omega, ?_⟩
  refine wp_forL (fun rest s M' => ISc i M ns n rest.length s M') ?_ ?_ _ _ _ ⟨M, [], none, none, none, TM.refl t, rfl, by simp, by simp [rgItems], rfl⟩
  · rintro d ds s M' ⟨M0, cs, x4, x5, x6, t0, rfl, hc, hlen, rfl⟩
    simp [gN]
    have ta0 := t0.ta t
    refine wp_len rfl ?_
    refine wp_draw (ta0.add _ _) (by simp; omega) (by simp; omega) fun k M1 k0 k1 t1 => ?_
    obtain ⟨M2, t2, rfl⟩ := t1.add ta0
    have ta2 := t2.ta ta0
    obtain ⟨d1, e1, _, m1⟩ := atI_get k0 k1
    obtain ⟨z, rfl, hz⟩ := mem_S m1
    refine wp_ixL rfl e1 ?_
    simp [sizeLine]
    refine wp_draw (ta2.add _ _) (by omega) (by omega) fun k M3 k0 k1 t3 => ?_
    obtain ⟨M4, t4, rfl⟩ := t3.add ta2
    have ta4 := t4.ta ta2
    obtain ⟨d2, e2, _, m2⟩ := atI_get (ds := dS PRES) k0 (by simpa [PRES] using k1)
    obtain ⟨p, rfl, hp⟩ := mem_S m2
    refine wp_ixL rfl e2 ?_
    simp [sizeLine]
    have t04 := (t0.trans t2).trans t4
    refine ⟨by rw [lst_cell (at_new t04)]; rfl, ?_⟩
    refine wp_draw (ta4.add _ _) (by omega) (by omega) fun k M5 k0 k1 t5 => ?_
    obtain ⟨M6, t6, rfl⟩ := t5.add ta4
    obtain ⟨d3, e3, _, m3⟩ := atI_get (ds := dS ABS) k0 (by simpa [ABS] using k1)
    obtain ⟨a, rfl, ha⟩ := mem_S m3
    refine wp_ixL rfl e3 ?_
    have t06 := ((t0.trans t2).trans t4).trans t6
    simp at hlen
    simp [sizeLine]
    refine wp_append (at_new t06) (by simp [sizeLine]; omega) ⟨intact_none, M6, cs ++ [(z, p, a)], _, _, _, t06, ?_, ?_, by simp; omega, rfl⟩
    · rw [set_new t06]
      simp [dC]
    · intro c hcm
      rcases List.mem_append.mp hcm with h | h
      · exact hc c h
      · simp at h
        subst h
        exact ⟨hz, hp, ha⟩
  · rintro s M' ⟨M0, cs, x4, x5, x6, t0, rfl, hc, hlen, rfl⟩
    simp
    exact q cs M0 t0 hc (by simpa using hlen)
theorem wp_script {ns : List Str} {n : Int} (t : TA i M) (hns : Ns ns) (hl : ns.length ≤ 1000) (n0 : 0 ≤ n) (n1 : n ≤ 1000) (q : ∀ (cs : List Cm) (M0 : Mem), TM i M M0 → (∀ c ∈ cs, CmOk ns c) → cs.length = n.toNat → Q (.p (.list (dCs cs))) M0) : (F_law_script [.cell true i, .p (.list (dS ns)), .p (.int n)] M).wp Q E := by
  unfold F_law_script
  simp
  refine b_script t hns hl n0 n1 fun cs M0 t0 hc hlen => ?_
  refine wp_outD_c (Nat.le_refl _) (at_new t0) ?_
  rw [cut_new t0]
  exact q cs M0 t0 hc hlen
theorem wp_scriptC {ns : List Str} {n : Int} (t : TA i M) (hns : Ns ns) (hl : ns.length ≤ 1000) (n0 : 0 ≤ n) (n1 : n ≤ 1000) (q : ∀ (cs : List Cm) (M0 : Mem), TM i M M0 → (∀ c ∈ cs, CmOk ns c) → cs.length = n.toNat → Q (.cell true M.m.length) (M0.add true (.lst (dCs cs)))) : (F_law_scriptC [.cell true i, .p (.list (dS ns)), .p (.int n)] M).wp Q E := by
  unfold F_law_scriptC
  simp
  refine b_script t hns hl n0 n1 fun cs M0 t0 hc hlen => ?_
  refine wp_outC_c (Nat.le_refl _) (at_new t0) ?_
  rw [cut_new t0]
  exact q cs M0 t0 hc hlen
/-! ### a path -/
theorem erase_map : ∀ (r : List Str) (k : Nat), (dS r).eraseIdx k = dS (r.eraseIdx k)
  | [], _ => rfl
  | _ :: _, 0 => rfl
  | x :: r, k + 1 => by
    have h := erase_map r k
    simp only [dS, List.map_cons, List.eraseIdx_cons_succ] at h ⊢
    rw [h]
theorem cons_erase : ∀ (r : List Str) {k : Nat} (h : k < r.length), (r[k] :: r.eraseIdx k).Perm r
  | [], _, h => by simp at h
  | x :: r, 0, _ => by simp
  | x :: r, k + 1, h => by
    have ih := cons_erase r (k := k) (by simpa using h)
    simp only [List.getElem_cons_succ, List.eraseIdx_cons_succ]
    exact (List.Perm.swap x _ _).trans (List.Perm.cons x ih)
def IPa (i : Nat) (M : Mem) (ns : List Str) (rest acc : List PyData) (M' : Mem) : Prop := TM i M M' ∧ ∃ l r : List Str, acc = dS l ∧ rest = dS r ∧ (l ++ r).Nodup ∧ (∀ z ∈ l ++ r, z ∈ ns) ∧ l.length + r.length ≤ ns.length
def IPb (i : Nat) (M : Mem) (l : List Str) (k : Nat) (acc : List PyData) (M2 : Mem) : Prop := ∃ M0 a r, TM i M M0 ∧ M2 = M0.add true (.lst (dS r)) ∧ acc = dS a ∧ (a ++ r).Perm l ∧ k = r.length
theorem wp_path {ns : List Str} (t : TA i M) (hns : Ns ns) (hl : ns.length ≤ 1000) (q : ∀ (p : List Str) (M0 : Mem), TM i M M0 → PathOk ns p → Q (.p (.list (dS p))) M0) : (F_law_path [.cell true i, .p (.list (dS ns))] M).wp Q E := by
  unfold F_law_path b_law_path
  simp [startS]
  refine wp_aSeqI_l ?_
  simp [lstOf, srcOf]
  refine wp_lcL (fun rest acc M' => IPa i M ns rest acc M') ?_ ?_ _ _ _ ⟨TM.refl t, [], ns, rfl, rfl, by simpa using hns.nd, by simp, by simp⟩
  · rintro d ds acc M' ⟨tm, l, r, rfl, hr, nd, sub, hlen⟩
    cases r with
    | nil => simp at hr
    | cons z r =>
      simp at hr
      obtain ⟨rfl, rfl⟩ := hr
      simp [gN, wipeS]
      refine wp_draw (tm.ta t) (by omega) (by omega) fun k M1 k0 k1 t1 => ?_
      simp
      refine Br.dec (fun _ => ?_) (fun _ => ?_)
      · refine ⟨_, rfl, ?_, intact_none, tm.trans t1, l ++ [z], r, by simp, rfl, ?_, ?_, ?_⟩
        · simp [sizeLine] at hlen ⊢
          omega
        · simpa using nd
        · simpa using sub
        · simp at hlen ⊢
          omega
      · refine ⟨intact_none, tm.trans t1, l, r, rfl, rfl, ?_, ?_, ?_⟩
        · exact nd.sublist (List.Sublist.append_left (List.sublist_cons_self _ _) _)
        · intro y hy
          refine sub y ?_
          rcases List.mem_append.mp hy with h | h
          · exact List.mem_append_left _ h
          · exact List.mem_append_right _ (List.mem_cons_of_mem _ h)
        · simp at hlen ⊢
          omega
  · rintro acc M' ⟨tm, l, r, rfl, hr, nd, sub, hlen⟩
    have r0 : r = [] := by
      cases r with
      | nil => rfl
      | cons z r => simp at hr
    subst r0
    simp at nd sub hlen
    try simp
    have e1 : M'.size true = M.m.length := tm.len
    rw [e1]
    refine wp_len (seq_cell (at_new tm)) ?_
    simp
    refine ⟨by omega, ?_⟩
    refine wp_lcL (fun rest acc M2 => IPb i M l rest.length acc M2) ?_ ?_ _ _ _ ⟨M', [], l, tm, rfl, rfl, by simp, by simp [rgItems]⟩
    · rintro d ds acc M2 ⟨M0, a, r, t0, rfl, rfl, pm, hlen2⟩
      simp [gN, wipeS, aYes]
      have lp := pm.length_eq
      simp at lp hlen2
      have ta0 := t0.ta t
      refine ⟨by rw [lst_cell (at_new t0)]; rfl, ?_⟩
      refine wp_len (seq_cell (at_new t0)) ?_
      refine wp_draw (ta0.add _ _) (by simp; omega) (by simp; omega) fun k M3 k0 k1 t3 => ?_
      obtain ⟨M4, t4, rfl⟩ := t3.add ta0
      have t04 := t0.trans t4
      obtain ⟨d1, e1, e2, m1⟩ := atI_get k0 k1
      obtain ⟨z, rfl, hz⟩ := mem_S m1
      refine wp_popAt (at_new t04) k0 k1 (by simp; omega) e2 ⟨_, rfl, ?_, intact_none, M4, a ++ [z], r.eraseIdx k.toNat, t04, ?_, by simp, ?_, ?_⟩
      · simp [sizeLine]
        omega
      · rw [set_new t04]
        rw [erase_map]
      · simp at k1
        have kl : k.toNat < r.length := by omega
        have ez : r[k.toNat] = z := by
          simp [dS, List.getElem?_map, kl] at e2
          exact e2
        refine List.Perm.trans ?_ pm
        rw [List.append_assoc]
        refine List.Perm.append_left a ?_
        rw [← ez]
        exact cons_erase r kl
      · simp at k1
        rw [List.length_eraseIdx_of_lt (by omega)]
        omega
    · rintro acc M2 ⟨M0, a, r, t0, rfl, rfl, pm, hlen2⟩
      have r0 : r = [] := by
        cases r with
        | nil => rfl
        | cons z r => simp at hlen2
      subst r0
      simp at pm
      rw [cut_new t0]
      exact q a M0 t0 ⟨pm.nodup_iff.mpr nd, fun z hz => sub z (pm.mem_iff.mp hz)⟩
/-! ### a run -/
theorem any_mem {l : List Str} {z : Str} : (dS l).any (fun y => PyData.eqv y (.str z)) = decide (z ∈ l) := any_S l z
def IRun (ns : List Str) (M : Mem) (x0 x1 : Dt) (fin : List Str) (m : Nat) (rest : List PyData) (s : SS) (M' : Mem) : Prop := ∃ p cs x3 x4 x5 x6 x7, M' = M ∧ PathOk ns p ∧ rest = dCs cs ∧ (∀ c ∈ cs, CmOk ns c) ∧ run p cs = fin ∧ s = [some x0, some x1, some (.p (.list (dS p))), x3, x4, x5, x6, x7]
theorem lc_rmv {s : SS} {x : Str} {QL : List PyData → Mem → Prop} {p : List Str} {k j : Nat} (hx : SeqAt.shaped (.str x) = true) (hp : ∀ z ∈ p, SeqAt.shaped (.str z) = true) (hl : p.length < sizeLine) (hk : s[k]? = some none) (hj : s[j]? = some (some (.p (.str x)))) (hkj : k ≠ j) (q : QL (dS (rmv p x)) M) :
    (lcL none M s (gN k) (aB (aOp (eqD true) (aVar k) (aVar j))) (aVar k) (dS p) [] M).wp QL E := by
  have lk : k < s.length := (List.getElem?_eq_some_iff.mp hk).1
  refine wp_lcL (fun rest acc M' => M' = M ∧ ∃ l r : List Str, acc = dS (rmv l x) ∧ rest = dS r ∧ l ++ r = p) ?_ ?_ _ _ _ ⟨rfl, [], p, rfl, rfl, rfl⟩
  · rintro d ds acc M' ⟨rfl, l, r, rfl, hr, e⟩
    cases r with
    | nil => simp at hr
    | cons z r =>
      simp at hr
      obtain ⟨rfl, rfl⟩ := hr
      have hz := hp z (by rw [← e]; simp)
      have ll : (rmv l x).length < sizeLine := by
        have a1 : (rmv l x).length ≤ l.length := List.length_filter_le _ _
        have a2 : l.length ≤ p.length := by rw [← e]; simp
        omega
      refine ⟨_, rfl, ?_⟩
      have g1 : (s.set k (some (.p (.str z))))[k]? = some (some (.p (.str z))) := by simp [lk]
      have g2 : (s.set k (some (.p (.str z))))[j]? = some (some (.p (.str x))) := by
        rw [List.getElem?_set_ne hkj]
        exact hj
      simp [g1, g2, hx, hz]
      refine Br.dec (fun h => ?_) (fun h => ?_)
      · exact ⟨intact_none, l ++ [z], by simp [rmv, h], r, rfl, by simpa using e⟩
      · exact ⟨_, rfl, ll, intact_none, l ++ [z], by simp [rmv, h], r, rfl, by simpa using e⟩
  · rintro acc M' ⟨rfl, l, r, rfl, hr, e⟩
    have r0 : r = [] := by
      cases r with
      | nil => rfl
      | cons z r => simp at hr
    subst r0
    simp at e
    rw [e]
    exact q
theorem shp_p {ns p : List Str} (hns : Ns ns) (h : PathOk ns p) : ∀ z ∈ p, SeqAt.shaped (.str z) = true := fun z hz => (hns.nm z (h.sub z hz)).shaped
end
end G

set_option Elab.async false
set_option linter.all false
set_option maxRecDepth 100000
/-! PD: runs, the program's own asking and applying. -/
namespace G
open PySem PySem.Spec PyProof.Rows L2 DL
section
variable {M : Mem} {E : XE} {i : Nat} {Q : Dt → Mem → Prop}
theorem wp_run {ns p : List Str} {cs : List Cm} (hns : Ns ns) (hl : ns.length ≤ 1000) (hp : PathOk ns p) (hc : ∀ c ∈ cs, CmOk ns c) (q : Q (.p (.list (dS (run p cs)))) M) : (F_law_run [.p (.list (dS p)), .p (.list (dCs cs))] M).wp Q E := by
  unfold F_law_run b_law_run
  simp [startS]
  refine ⟨dS p, rfl, ?_⟩
  refine wp_aSeqI_l ?_
  simp [lstOf, srcOf]
  refine wp_forL (fun rest s M' => IRun ns M (.p (.list (dS p))) (.p (.list (dCs cs))) (run p cs) 0 rest s M') ?_ ?_ _ _ _ ⟨p, cs, none, none, none, none, none, rfl, hp, rfl, hc, rfl, rfl⟩
  · rintro d ds s M' ⟨r, cs2, x3, x4, x5, x6, x7, rfl, hr, e, hc2, fin, rfl⟩
    cases cs2 with
    | nil => simp at e
    | cons c cs2 =>
      simp at e
      obtain ⟨rfl, rfl⟩ := e
      have hcc := hc2 c (by simp)
      have lr := hr.len
      refine ⟨_, rfl, ?_⟩
      simp
      have sa := shp_act (p := r) hcc
      have s1 : SeqAt.shaped (.str ("front" : Str)) = true := shp_w (by simp)
      have s2 : SeqAt.shaped (.str ("back" : Str)) = true := shp_w (by simp)
      have hx := (hns.nm c.1 hcc.n).shaped
      refine wp_in rfl rfl (flat_S r) ?_
      rw [any_S]
      have goal2 : ∀ x6 : Str, x6 = act r c → (aSeq (aIfS (aB (aOp (inD false) (aVar 6) (aTup (aCons (aC (.str "front")) (aCons (aC (.str "back")) (aCons (aC (.str "remove")) aNil)))))) (aSetL none 2 (aLc [7] (aSeqI (aVar 2)) (gN 7) (aB (aOp (eqD true) (aVar 7) (aVar 3))) (aVar 7))) aNext) (aSeq (aIfS (aB (aOp (eqD false) (aVar 6) (aC (.str "front")))) (aSet 2 (aOp addD (aP (aLst (aCons (aVar 3) aNil))) (aVar 2))) aNext) (aIfS (aB (aOp (eqD false) (aVar 6) (aC (.str "back")))) (aSet 2 (aOp addD (aVar 2) (aP (aLst (aCons (aVar 3) aNil))))) aNext))
          [some (.p (.list (dS p))), some (.p (.list (dCs cs))), some (.p (.list (dS r))), some (.p (.str c.1)), some (.p (.str c.2.1)), some (.p (.str c.2.2)), some (.p (.str x6)), x7] M').wp (fun x M2 => match x with
        | .nx s2 => Intact none M' M2 ∧ IRun ns M' (.p (.list (dS p))) (.p (.list (dCs cs))) (run p cs) 0 (dCs cs2) s2 M2
        | _ => False) (fun c MM => E c (MM.cut M'.m.length)) := by
        rintro x6 rfl
        have nx : (dCs cs2).length = (dCs cs2).length := rfl
        simp [sizeLine]
        refine wp_in rfl rfl rfl ?_
        rw [show ([PyData.str "front", PyData.str "back", PyData.str "remove"]) = dS ["front", "back", "remove"] from rfl, any_S]
        simp only [Bool.false_eq_true, if_false, isB_p]
        have tail : ∀ (w : List Str) (x7 : Option Dt), w.length ≤ 1000 → w = (if act r c ∈ (["front", "back", "remove"] : List Str) then rmv r c.1 else r) → (aSeq (aIfS (aB (aOp (eqD false) (aVar 6) (aC (.str "front")))) (aSet 2 (aOp addD (aP (aLst (aCons (aVar 3) aNil))) (aVar 2))) aNext) (aIfS (aB (aOp (eqD false) (aVar 6) (aC (.str "back")))) (aSet 2 (aOp addD (aVar 2) (aP (aLst (aCons (aVar 3) aNil))))) aNext)
          [some (.p (.list (dS p))), some (.p (.list (dCs cs))), some (.p (.list (dS w))), some (.p (.str c.1)), some (.p (.str c.2.1)), some (.p (.str c.2.2)), some (.p (.str (act r c))), x7] M').wp (fun x M2 => match x with
          | .nx s2 => Intact none M' M2 ∧ IRun ns M' (.p (.list (dS p))) (.p (.list (dCs cs))) (run p cs) 0 (dCs cs2) s2 M2
          | _ => False) (fun c MM => E c (MM.cut M'.m.length)) := by
          intro w x7 lw hw
          simp [sa, s1, s2, sizeLine]
          have fin2 : ∀ (y : List Str) (x7 : Option Dt), y = stp r c → IRun ns M' (.p (.list (dS p))) (.p (.list (dCs cs))) (run p cs) 0 (dCs cs2) [some (.p (.list (dS p))), some (.p (.list (dCs cs))), some (.p (.list (dS y))), some (.p (.str c.1)), some (.p (.str c.2.1)), some (.p (.str c.2.2)), some (.p (.str (act r c))), x7] M' := by
            rintro y x7 rfl
            exact ⟨_, cs2, _, _, _, _, _, rfl, hr.stp hcc.n, rfl, fun c hc => hc2 c (by simp [hc]), fin, rfl⟩
          refine Br.dec (fun h => ?_) (fun h => ?_)
          · have hw2 : w = rmv r c.1 := by rw [hw, h]; simp
            refine ⟨by omega, Br.dec (fun h2 => ?_) (fun h2 => ⟨intact_none, fin2 (c.1 :: w) x7 (by rw [hw2]; unfold stp; rw [if_pos h])⟩)⟩
            rw [h] at h2
            exact absurd h2 (by decide +kernel)
          · refine Br.dec (fun h2 => ?_) (fun h2 => ?_)
            · have hw2 : w = rmv r c.1 := by rw [hw, h2]; simp
              refine ⟨by omega, intact_none, ?_⟩
              have z := fin2 (w ++ [c.1]) x7 (by rw [hw2]; unfold stp; rw [if_neg h, if_pos h2])
              simpa [sizeLine] using z
            · refine ⟨intact_none, fin2 w x7 ?_⟩
              rw [hw]
              unfold stp
              rw [if_neg h, if_neg h2]
              simp [h, h2]
        refine Br.dec (fun h => ?_) (fun h => ?_)
        · refine wp_aSeqI_l ?_
          simp [lstOf, srcOf, wipeS]
          refine lc_rmv hx (shp_p hns hr) (by simp [sizeLine]; omega) rfl rfl (by decide) ?_
          have z := tail (rmv r c.1) x7 ?_ ?_
          · simpa [sizeLine] using z
          · have : (rmv r c.1).length ≤ r.length := List.length_filter_le _ _
            omega
          · rw [if_pos h]
        · have z := tail r x7 (by omega) (by rw [if_neg h])
          simpa [sizeLine] using z
      simp only [Bool.false_eq_true, if_false, isB_p]
      refine Br.dec (fun h => ?_) (fun h => ?_)
      · have z := goal2 c.2.1 (by unfold act; rw [if_pos h])
        simpa [sizeLine] using z
      · have z := goal2 c.2.2 (by unfold act; rw [if_neg h])
        simpa [sizeLine] using z
  · rintro s M' ⟨r, cs2, x3, x4, x5, x6, x7, rfl, hr, e, hc2, fin, rfl⟩
    have r0 : cs2 = [] := by
      cases cs2 with
      | nil => rfl
      | cons z r => simp at e
    subst r0
    simp
    rw [cut_self]
    rw [show run p cs = r from fin.symm] at q
    exact q
end
end G

set_option Elab.async false
set_option linter.all false
set_option maxRecDepth 100000
/-! PE: the program's own asking and applying; showing. -/
namespace G
open PySem PySem.Spec PyProof.Rows L2 DL
section
variable {M : Mem} {E : XE} {i : Nat} {Q : Dt → Mem → Prop}
theorem act_in {ns p : List Str} {c : Cm} (h : CmOk ns c) : act p c = "keep" ∨ act p c = "skip" ∨ act p c = "front" ∨ act p c = "back" ∨ act p c = "remove" := by
  unfold act
  split
  · have := h.p
    simp [PRES] at this
    rcases this with e | e | e | e <;> simp [e]
  · have := h.a
    simp [ABS] at this
    rcases this with e | e | e <;> simp [e]
theorem ne_w : ("keep" : Str) ≠ "front" ∧ ("keep" : Str) ≠ "back" ∧ ("keep" : Str) ≠ "remove" ∧ ("skip" : Str) ≠ "front" ∧ ("skip" : Str) ≠ "back" ∧ ("skip" : Str) ≠ "remove" ∧ ("back" : Str) ≠ "front" ∧ ("remove" : Str) ≠ "front" ∧ ("remove" : Str) ≠ "back" := by decide +kernel
theorem wp_apply {ns p : List Str} {c : Cm} (hns : Ns ns) (hl : ns.length ≤ 1000) (hp : PathOk ns p) (hc : CmOk ns c) (q : Q (.p (.list (dS (stp p c)))) M) : (F_apply [.p (.list (dS p)), .p (dC c)] M).wp Q E := by
  unfold F_apply b_apply
  simp [startS]
  refine ⟨_, rfl, ?_⟩
  simp
  have lr := hp.len
  have sa := shp_act (p := p) hc
  have s1 : SeqAt.shaped (.str ("front" : Str)) = true := shp_w (by simp)
  have s2 : SeqAt.shaped (.str ("back" : Str)) = true := shp_w (by simp)
  have hx := (hns.nm c.1 hc.n).shaped
  obtain ⟨w1, w2, w3, w4, w5, w6, w7, w8, w9⟩ := ne_w
  refine wp_in rfl rfl (flat_S p) ?_
  rw [any_S]
  simp only [Bool.false_eq_true, if_false, isB_p]
  have tail : ∀ x5 : Str, x5 = act p c → (aSeq (aIfS (aB (aOp (inD false) (aVar 5) (aTup (aCons (aC (.str "keep")) (aCons (aC (.str "skip")) aNil))))) (aRet (aP (aListOf (aVar 0)))) aNext) (aSeq (aSetL none 6 (aLc [7] (aSeqI (aVar 0)) (gN 7) (aB (aOp (eqD true) (aVar 7) (aVar 2))) (aVar 7))) (aSeq (aIfS (aB (aOp (eqD false) (aVar 5) (aC (.str "front")))) (aRet (aOp addD (aP (aLst (aCons (aVar 2) aNil))) (aVar 6))) aNext) (aSeq (aIfS (aB (aOp (eqD false) (aVar 5) (aC (.str "back")))) (aRet (aOp addD (aVar 6) (aP (aLst (aCons (aVar 2) aNil))))) aNext) (aRet (aVar 6)))))
      [some (.p (.list (dS p))), some (.p (dC c)), some (.p (.str c.1)), some (.p (.str c.2.1)), some (.p (.str c.2.2)), some (.p (.str x5)), none, none] M).wp (fun x M1 => match x with
    | .nx _ => Q (.p .none) (M1.cut M.m.length)
    | .rt d => (outD d M1 M.m.length).wp Q E
    | _ => False) (fun c MM => E c (MM.cut M.m.length)) := by
    rintro x5 rfl
    simp [sizeLine]
    refine wp_in rfl rfl rfl ?_
    rw [show ([PyData.str "keep", PyData.str "skip"]) = dS ["keep", "skip"] from rfl, any_S]
    simp only [Bool.false_eq_true, if_false, isB_p]
    refine Br.dec (fun h => ?_) (fun h => ?_)
    · refine ⟨dS p, rfl, ?_⟩
      rw [cut_self]
      have e : stp p c = p := by
        unfold stp
        simp at h
        rcases h with h | h <;> simp [h, w1, w2, w3, w4, w5, w6]
      rw [e] at q
      exact q
    · refine wp_aSeqI_l ?_
      simp [lstOf, srcOf, wipeS]
      have lf : (rmv p c.1).length ≤ p.length := List.length_filter_le _ _
      refine lc_rmv hx (shp_p hns hp) (by simp [sizeLine]; omega) rfl rfl (by decide) ?_
      simp [sa, s1, s2]
      refine Br.dec (fun h1 => ?_) (fun h1 => ?_)
      · refine ⟨by omega, ?_⟩
        rw [cut_self]
        unfold stp at q
        rw [if_pos h1] at q
        exact q
      · refine Br.dec (fun h2 => ?_) (fun h2 => ?_)
        · refine ⟨by omega, ?_⟩
          rw [cut_self]
          unfold stp at q
          rw [if_neg h1, if_pos h2] at q
          simpa using q
        · rw [cut_self]
          have h3 : act p c = "remove" := by
            simp at h
            rcases act_in (p := p) hc with z | z | z | z | z
            · exact absurd z h.1
            · exact absurd z h.2
            · exact absurd z h1
            · exact absurd z h2
            · exact z
          unfold stp at q
          rw [if_neg h1, if_neg h2, if_pos h3] at q
          exact q
  refine Br.dec (fun h => ?_) (fun h => ?_)
  · have z := tail c.2.1 (by unfold act; rw [if_pos h])
    simpa [sizeLine] using z
  · have z := tail c.2.2 (by unfold act; rw [if_neg h])
    simpa [sizeLine] using z
/-! ### asking -/
theorem bools_map : ∀ bs : List Bool, boolsOf (bs.map PyData.bool) = some bs
  | [] => rfl
  | b :: bs => by simp [boolsOf, bools_map bs]
def IIn (M : Mem) (rest acc : List PyData) (M' : Mem) : Prop := M' = M ∧ ∃ cs : List Nat, rest = cs.map (fun c => PyData.str ⟨#[c]⟩) ∧ (∀ c ∈ cs, c ∈ cl CH) ∧ acc.length + cs.length ≤ 12 ∧ ∃ bs : List Bool, acc = bs.map PyData.bool ∧ bs.all id = true
theorem wp_is_name {z : Str} (hz : Nm z) (q : Q (.p (.bool true)) M) : (F_is_name [.p (.str z)] M).wp Q E := by
  unfold F_is_name b_is_name
  have l1 := hz.len1
  have l2 := hz.len
  simp [startS, tyOfD, tyOfP, isTy, sizeLine]
  refine ⟨by omega, ?_⟩
  rw [show decide ((1 : Int) ≤ z.length) = true from decide_eq_true (by omega)]
  simp
  rw [show decide ((z.length : Int) ≤ 12) = true from decide_eq_true (by omega)]
  simp
  refine wp_aSeqI_s ?_
  simp
  refine wp_lcL (fun rest acc M' => IIn M rest acc M') ?_ ?_ _ _ _ ⟨rfl, cl z, rfl, hz.ch, by simpa using hz.hi, [], rfl, rfl⟩
  · rintro d ds acc M' ⟨rfl, cs, e, hc, hl, bs, rfl, hb⟩
    cases cs with
    | nil => simp at e
    | cons c cs =>
      simp at e
      obtain ⟨rfl, rfl⟩ := e
      refine ⟨_, rfl, ?_⟩
      simp [aYes, wipeS]
      refine wp_inS ?_
      have h1 := hc c (by simp)
      have h1' : c ∈ CH.cps.toList := h1
      rw [show decide (c ∈ CH.cps.toList) = true from decide_eq_true h1']
      simp at hl
      refine ⟨_, rfl, by simp [sizeLine]; omega, intact_none, rfl, cs, rfl, fun x hx => hc x (by simp [hx]), by simp; omega, bs ++ [true], by simp, by rw [List.all_append, hb]; rfl⟩
  · rintro acc M' ⟨rfl, cs, e, hc, hl, bs, rfl, hb⟩
    simp [allD, lstOf, bools_map]
    rw [cut_self]
    rw [hb]
    exact q
theorem lst_src {x : Dt} {ds : List PyData} (h : lstOf M x = some ds) : ∀ b j, srcOf x = some (b, j) → M.at_ b j = some (.lst ds) := by
  intro b j e
  cases x with
  | p d => cases e
  | cell b' j' =>
    cases e
    simp only [lstOf] at h
    split at h
    · rename_i ds' e
      cases h
      exact e
    · cases h
theorem lst_add {x : Dt} {ds : List PyData} {b : Bool} {c : Cell} (h : lstOf M x = some ds) : lstOf (M.add b c) x = some ds := by
  cases x with
  | p d => cases d <;> first | exact h | cases h
  | cell b' j' => exact lst_cell (at_add_old (lst_src h b' j' rfl))
theorem intact_add {x : Dt} {ds : List PyData} {b : Bool} {c d : Cell} (h : lstOf M x = some ds) : Intact (srcOf x) (M.add b c) (M.add b d) := by
  intro b' j e
  have z := lst_src h b' j e
  rw [at_add_old z, at_add_old z]
abbrev kv (l : List Str) : List (Key × PyData) := l.map fun z => (.inr z, .bool true)
theorem val_kv (l : List Str) (z : Str) : (valP (kv l) (.inr z)).isSome = decide (z ∈ l) := by
  induction l with
  | nil => rfl
  | cons x l ih =>
    simp only [valP, kv, List.map_cons, List.find?_cons] at ih ⊢
    by_cases h : x = z
    · simp [h]
    · have e : decide ((Sum.inr x : Key) = Sum.inr z) = false := by simp [h]
      have h' : ¬ z = x := fun q => h q.symm
      rw [e]
      simp only [List.mem_cons, h', false_or]
      exact ih
theorem put_kv {l : List Str} {z : Str} (h : z ∉ l) : putP (kv l) (.inr z) (.bool true) = kv (l ++ [z]) := by
  unfold putP
  rw [if_neg ?_]
  · simp [kv]
  · simp [kv]
    exact h
@[simp] theorem wp_aDnew {q : Bool} {s : SS} : (aDnew q s M).wp Q E = Q (.cell q (M.size q)) (M.add q (.dK [])) := rfl
@[simp] theorem wp_aDin {neg : Bool} {fk fd : SS → Mem → Rs Dt} {s : SS} : (aDin neg fk fd s M).wp Q E = (fk s M).wp (fun y M1 => (fd s M1).wp (fun x M2 => ∃ k kvs, keyOf y = some k ∧ dKOf M2 x = some kvs ∧ Q (.p (.bool (if neg then !(valP kvs k).isSome else (valP kvs k).isSome))) M2) E) E := by
  simp only [aDin, wp_bind]
  congr 1; funext y M1; congr 1; funext x M2
  cases h : keyOf y with
  | none => simp
  | some k =>
    cases h2 : dKOf M2 x with
    | none => simp
    | some kvs => simp
theorem wp_aDput {fv fo fi : SS → Mem → Rs Dt} {s : SS} {QF : Fl → Mem → Prop} (h : (fv s M).wp (fun v M1 => (fo s M1).wp (fun o M2 => (fi s M2).wp (fun y M3 => ∃ d q n k kvs, v = .p d ∧ o = .cell q n ∧ keyOf y = some k ∧ M3.at_ q n = some (.dK kvs) ∧ kvs.length < sizeLine ∧ QF (.nx s) (M3.set q n (.dK (putP kvs k d)))) E) E) E) : (aDput fv fo fi s M).wp QF E := by
  simp only [aDput, wp_bind, wp_ok]
  refine wp_mono h fun v M1 h => wp_mono h fun o M2 h => wp_mono h fun y M3 ⟨d, q, n, k, kvs, e1, e2, e3, e4, e5, e6⟩ => ?_
  subst e1 e2
  simp only [dputD, toP, Rs.bind, e3, e4, e5, if_true]
  exact e6
def IPt (M : Mem) (x : Dt) (ps : List Str) (rest : List PyData) (s : SS) (M' : Mem) : Prop := ∃ l r x2, M' = M.add true (.dK (kv l)) ∧ rest = dS r ∧ l ++ r = ps ∧ s = [some x, some (.cell true (M.size true)), x2]
theorem wp_is_path {x : Dt} {ps : List Str} (hx : lstOf M x = some (dS ps)) (nd : ps.Nodup) (hn : ∀ z ∈ ps, Nm z) (hl : ps.length ≤ 1000) (q : Q (.p (.bool true)) M) : (F_is_path [x] M).wp Q E := by
  unfold F_is_path b_is_path
  have ty : tyOfD M x = some .lst := by
    cases x with
    | p d =>
      cases d <;> simp [lstOf] at hx
      rfl
    | cell b j =>
      have := lst_src hx b j rfl
      simp [tyOfD, this]
  simp [startS, ty, isTy]
  refine wp_aSeqI_l ?_
  simp
  refine ⟨_, lst_add hx, ?_⟩
  refine wp_forL (fun rest s M' => IPt M x ps rest s M') ?_ ?_ _ _ _ ⟨[], ps, none, rfl, rfl, rfl, rfl⟩
  · rintro d ds s M' ⟨l, r, x2, rfl, e, hlr, rfl⟩
    cases r with
    | nil => simp at e
    | cons z r =>
      simp at e
      obtain ⟨rfl, rfl⟩ := e
      refine ⟨_, rfl, ?_⟩
      simp
      refine wp_is_name (hn z (by rw [← hlr]; simp)) ?_
      simp
      have atd : (M.add true (.dK (kv l))).at_ true (M.size true) = some (.dK (kv l)) := at_add_new
      have zl : z ∉ l := by
        rw [← hlr] at nd
        intro h
        exact (List.nodup_append.mp nd).2.2 z h z (by simp) rfl
      refine ⟨.inr z, rfl, kv l, by simp [dKOf, atd], ?_⟩
      rw [val_kv, decide_eq_false zl]
      simp
      refine wp_aDput ?_
      simp
      refine ⟨.inr z, rfl, ?_, ?_⟩
      · have : l.length ≤ ps.length := by rw [← hlr]; simp
        simp [sizeLine]
        omega
      · rw [set_add_new]
        refine ⟨intact_add hx, l ++ [z], r, _, ?_, rfl, by simpa using hlr, rfl⟩
        rw [put_kv zl]
  · rintro s M' ⟨l, r, x2, rfl, e, hlr, rfl⟩
    simp
    rw [cut_add]
    exact q
theorem wp_is_command {ns : List Str} {c : Cm} (hns : Ns ns) (hc : CmOk ns c) (q : Q (.p (.bool true)) M) : (F_is_command [.p (dC c)] M).wp Q E := by
  unfold F_is_command b_is_command
  simp [startS, tyOfD, tyOfP, isTy, dC]
  refine wp_len rfl ?_
  simp
  refine wp_ixL rfl atI0 ?_
  refine wp_is_name (hns.nm c.1 hc.n) ?_
  simp
  refine wp_ixL rfl atI1 ?_
  simp [tyOfD, tyOfP, isTy]
  refine wp_ixL rfl (show atI [PyData.str c.1, .str c.2.1, .str c.2.2] 2 = some (.str c.2.2) by simp [atI, ixN]) ?_
  simp [tyOfD, tyOfP, isTy]
  refine wp_ixL rfl atI1 ?_
  refine wp_in rfl rfl (flat_S PRES) ?_
  rw [show ([.str "keep", .str "front", .str "back", .str "remove"] : List PyData) = dS PRES from rfl, any_S, decide_eq_true hc.p]
  simp
  refine wp_ixL rfl (show atI [PyData.str c.1, .str c.2.1, .str c.2.2] 2 = some (.str c.2.2) by simp [atI, ixN]) ?_
  refine wp_in rfl rfl (flat_S ABS) ?_
  rw [show ([.str "skip", .str "front", .str "back"] : List PyData) = dS ABS from rfl, any_S, decide_eq_true hc.a]
  simp
  rw [cut_self]
  exact q
/-! ### flat -/
abbrev dSt (S : List (List Cm)) : List PyData := S.map fun cs => .list (dCs cs)
def IFl (M : Mem) (x0 : Dt) (S : List (List Cm)) (rest : List PyData) (s : SS) (M' : Mem) : Prop := ∃ l r f x2, f = l.flatten ∧ M' = M.add true (.lst (dCs f)) ∧ rest = dSt r ∧ l ++ r = S ∧ s = [some x0, some (.cell true (M.size true)), x2]
theorem wp_flat {S : List (List Cm)} (hl : S.flatten.length ≤ 100000) (q : Q (.p (.list (dCs S.flatten))) M) : (F_law_flat [.p (.list (dSt S))] M).wp Q E := by
  unfold F_law_flat b_law_flat
  simp [startS, sizeLine]
  refine wp_aSeqI_l ?_
  simp [lstOf, srcOf]
  refine wp_forL (fun rest s M' => IFl M (.p (.list (dSt S))) S rest s M') ?_ ?_ _ _ _ ⟨[], S, [], none, rfl, rfl, rfl, rfl, rfl⟩
  · rintro d ds s M' ⟨l, r, f, x2, hf, rfl, e, hlr, rfl⟩
    cases r with
    | nil => simp at e
    | cons z r =>
      simp at e
      obtain ⟨rfl, rfl⟩ := e
      refine ⟨_, rfl, ?_⟩
      simp
      have atd : (M.add true (.lst (dCs f))).at_ true (M.size true) = some (.lst (dCs f)) := at_add_new
      refine ⟨by rw [lst_cell atd]; rfl, ?_⟩
      refine wp_extend atd rfl ?_ ⟨intact_none, l ++ [z], r, f ++ z, _, by rw [hf]; simp, ?_, rfl, by simpa using hlr, rfl⟩
      · have : f.length + z.length ≤ S.flatten.length := by
          rw [← hlr, hf]
          simp
        simp only [List.length_map, sizeLine]
        omega
      · rw [set_add_new]
        simp
  · rintro s M' ⟨l, r, f, x2, hf, rfl, e, hlr, rfl⟩
    have r0 : r = [] := by
      cases r with
      | nil => rfl
      | cons z r => simp at e
    subst r0
    simp at hlr
    subst hlr
    subst hf
    simp [-List.map_flatten]
    refine wp_outD_c (Nat.le_refl _) at_add_new ?_
    rw [cut_add]
    exact q
end
end G

set_option Elab.async false
set_option linter.all false
set_option maxRecDepth 100000
/-! PF: data that can be shown and compared. -/
namespace G
open PySem PySem.Spec PyProof.Rows L2 DL
structure Gd (k b : Nat) (d : PyData) : Prop where
  lay : d.canLay0 = true
  dep : d.depth ≤ k
  sh : d.showable = true
  lv : d.leavesShort 13 = true
  bk : d.bulk ≤ b
theorem Gd.all {k b : Nat} : ∀ {ds : List PyData}, (∀ d ∈ ds, Gd k b d) → PyData.canLayAll0 ds = true ∧ PyData.depthAll ds ≤ k ∧ PyData.showableAll ds = true ∧ PyData.leavesShortAll 13 ds = true ∧ PyData.bulkAll ds ≤ ds.length * (b + 1)
  | [], _ => ⟨rfl, Nat.zero_le _, rfl, rfl, Nat.zero_le _⟩
  | d :: ds, h => by
    obtain ⟨h1, h2, h3, h4, h5⟩ := Gd.all (ds := ds) fun x hx => h x (by simp [hx])
    have g := h d (by simp)
    refine ⟨?_, ?_, ?_, ?_, ?_⟩
    · simp [PyData.canLayAll0, g.lay, h1]
    · simp only [PyData.depthAll]
      have := g.dep
      omega
    · simp [PyData.showableAll, g.sh, h3]
    · simp [PyData.leavesShortAll, g.lv, h4]
    · simp only [PyData.bulkAll, List.length_cons, Nat.add_mul]
      have := g.bk
      omega
theorem Gd.list {k b n : Nat} {ds : List PyData} (h : ∀ d ∈ ds, Gd k b d) (hn : ds.length * (b + 1) ≤ n) : Gd (k + 1) n (.list ds) := by
  obtain ⟨h1, h2, h3, h4, h5⟩ := Gd.all h
  exact ⟨by simpa [PyData.canLay0] using h1, by simp only [PyData.depth]; omega, by simpa [PyData.showable] using h3, by simpa [PyData.leavesShort] using h4, by simp only [PyData.bulk]; omega⟩
theorem Gd.tuple {k b n : Nat} {ds : List PyData} (h : ∀ d ∈ ds, Gd k b d) (hn : ds.length * (b + 1) ≤ n) : Gd (k + 1) n (.tuple ds) := by
  obtain ⟨h1, h2, h3, h4, h5⟩ := Gd.all h
  exact ⟨by simpa [PyData.canLay0] using h1, by simp only [PyData.depth]; omega, by simpa [PyData.showable] using h3, by simpa [PyData.leavesShort] using h4, by simp only [PyData.bulk]; omega⟩
theorem Gd.mono {k b k' b' : Nat} {d : PyData} (h : Gd k b d) (hk : k ≤ k') (hb : b ≤ b') : Gd k' b' d := ⟨h.lay, Nat.le_trans h.dep hk, h.sh, h.lv, Nat.le_trans h.bk hb⟩
theorem Gd.shaped {k b : Nat} {d : PyData} (h : Gd k b d) (hk : k ≤ 64) : SeqAt.shaped d = true := by
  have := h.dep
  simp [SeqAt.shaped, h.lay]
  omega
theorem Gd.str {z : Str} {b : Nat} (h : ∀ c ∈ cl z, c < 1114112) (hb : (cl z).length ≤ b) : Gd 0 b (.str z) := by
  refine ⟨?_, Nat.le_refl _, rfl, ?_, ?_⟩
  · simp only [PyData.canLay0, PyData.strOk, ← Array.all_toList, List.all_eq_true]
    intro c hc
    exact decide_eq_true (h c hc)
  · simp only [PyData.leavesShort, List.all_eq_true]
    intro c hc
    have := h c hc
    exact decide_eq_true (by omega)
  · simp only [PyData.bulk]
    simpa [cl] using hb
theorem ch_lt : ∀ c ∈ cl CH, c < 1114112 := by decide +kernel
theorem Nm.gd {z : Str} (h : Nm z) : Gd 0 12 (.str z) := .str (fun c hc => ch_lt c (h.ch c hc)) h.hi
theorem gd_w {z : Str} (h : z ∈ PRES ∨ z ∈ ABS) : Gd 0 12 (.str z) := by
  simp [PRES, ABS] at h
  rcases h with (rfl | rfl | rfl | rfl) | (rfl | rfl | rfl) <;> exact .str (by decide +kernel) (by decide +kernel)
theorem gd_C {ns : List Str} {c : Cm} (hns : Ns ns) (h : CmOk ns c) : Gd 1 39 (dC c) := by
  refine .tuple (b := 12) (fun d hd => ?_) (by simp)
  simp at hd
  rcases hd with rfl | rfl | rfl
  · exact (hns.nm _ h.n).gd
  · exact gd_w (.inl h.p)
  · exact gd_w (.inr h.a)
theorem gd_Cs {ns : List Str} {cs : List Cm} {n : Nat} (hns : Ns ns) (h : ∀ c ∈ cs, CmOk ns c) (hn : cs.length * 40 ≤ n) : Gd 2 n (.list (dCs cs)) := by
  refine .list (b := 39) (fun d hd => ?_) (by simpa using hn)
  obtain ⟨c, hc, rfl⟩ := List.mem_map.mp hd
  exact gd_C hns (h c hc)
theorem gd_S {ns p : List Str} {n : Nat} (hns : Ns ns) (h : ∀ z ∈ p, z ∈ ns) (hn : p.length * 13 ≤ n) : Gd 1 n (.list (dS p)) := by
  refine .list (b := 12) (fun d hd => ?_) (by simpa using hn)
  obtain ⟨z, rfl, hz⟩ := mem_S hd
  exact (hns.nm z (h z hz)).gd
mutual
theorem eqv_refl : ∀ d : PyData, d.canLay0 = true → PyData.eqv d d = true
  | .none, _ => rfl
  | .bool b, _ => by cases b <;> rfl
  | .int i, _ => by simp [PyData.eqv]
  | .str s, _ => by rw [eqv_str]; exact decide_eq_true rfl
  | .list ds, h => by
    simp only [PyData.eqv]
    exact eqvAll_refl ds (by simpa [PyData.canLay0] using h)
  | .tuple ds, h => by
    simp only [PyData.eqv]
    exact eqvAll_refl ds (by simpa [PyData.canLay0] using h)
  | .dict kvs, h => by simp [PyData.canLay0] at h
theorem eqvAll_refl : ∀ ds : List PyData, PyData.canLayAll0 ds = true → PyData.eqvAll ds ds = true
  | [], _ => rfl
  | d :: ds, h => by
    have h' : d.canLay0 = true ∧ PyData.canLayAll0 ds = true := by simpa [PyData.canLayAll0] using h
    simp only [PyData.eqvAll, eqv_refl d h'.1, eqvAll_refl ds h'.2, Bool.and_self]
end
section
variable {M : Mem} {E : XE} {i : Nat} {Q : Dt → Mem → Prop}
theorem wp_equal {x y : Dt} {d : PyData} {k b : Nat} (hx : dat M x = some d) (hy : dat M y = some d) (g : Gd k b d) (hk : k ≤ 64) (hb : b ≤ 2 ^ 20) (q : Q (.p (.bool true)) M) : (F_law_equal [x, y] M).wp Q E := by
  unfold F_law_equal b_law_equal
  simp [startS]
  have l := PyData.shown_fits_bulk (B := 13) (by omega) (by omega) g.lv (Nat.le_trans g.bk hb)
  refine wp_repr hx (g.shaped hk) g.sh l ?_
  try simp
  refine wp_repr hy (g.shaped hk) g.sh l ?_
  simp
  rw [cut_self]
  exact q
theorem dat_cell {b : Bool} {j : Nat} {ds : List PyData} (h : M.at_ b j = some (.lst ds)) : dat M (.cell b j) = some (.list ds) := by simp [dat, h]
end
end G

set_option Elab.async false
set_option linter.all false
set_option maxRecDepth 100000
/-! PL: a live path. -/
namespace G
open PySem PySem.Spec PyProof.Rows L2 DL
abbrev Step := List Cm × List Str
def dP (s : Step) : PyData := .tuple [.list (dCs s.1), .list (dS s.2)]
abbrev dPs (l : List Step) : List PyData := l.map dP
def flds (cur : List Str) (d u : Nat) : List (Str × Dt) := [("most", .p (.int 40)), ("current", .p (.list (dS cur))), ("done", .cell false d), ("undone", .cell false u)]
structure LiveAt (M : Mem) (l d u : Nat) (cur : List Str) (dn un : List Step) : Prop where
  ho : M.at_ false l = some (.obj 0 (flds cur d u))
  hd : M.at_ false d = some (.lst (dPs dn))
  hu : M.at_ false u = some (.lst (dPs un))
  ne : d ≠ u
structure StOk (ns : List Str) (s : Step) : Prop where
  c : ∀ c ∈ s.1, CmOk ns c
  p : PathOk ns s.2
  n : s.1.length ≤ 1000
theorem gd_P {ns : List Str} {s : Step} (hns : Ns ns) (hl : ns.length ≤ 1000) (h : StOk ns s) : Gd 3 200000 (dP s) := by
  refine .tuple (b := 40000) (fun d hd => ?_) (by simp)
  have hp := h.p.len
  have hn := h.n
  simp at hd
  rcases hd with rfl | rfl
  · exact gd_Cs hns h.c (by omega)
  · exact (gd_S hns h.p.sub (n := 13000) (by omega)).mono (by omega) (by omega)
section
variable {M : Mem} {E : XE} {i : Nat} {Q : Dt → Mem → Prop} {ns cur : List Str} {l d u : Nat} {dn un : List Step}
theorem LiveAt.congr {M' : Mem} (h : LiveAt M l d u cur dn un) (e : M'.o = M.o) : LiveAt M' l d u cur dn un := by
  obtain ⟨h1, h2, h3, h4⟩ := h
  refine ⟨?_, ?_, ?_, h4⟩ <;> (simp only [Mem.at_, e] at *; assumption)
theorem obj_of {b : Bool} {j c : Nat} {fs : List (Str × Dt)} (h : M.at_ b j = some (.obj c fs)) : objOf M (.cell b j) = some (c, fs) := by simp [objOf, h]
theorem LiveAt.ld (h : LiveAt M l d u cur dn un) : l ≠ d := fun e => by
  have h1 := h.ho
  have h2 := h.hd
  rw [e, h2] at h1
  cases h1
theorem LiveAt.lu (h : LiveAt M l d u cur dn un) : l ≠ u := fun e => by
  have h1 := h.ho
  have h2 := h.hu
  rw [e, h2] at h1
  cases h1
theorem m_set_f {j : Nat} {c : Cell} : (M.set false j c).m = M.m := rfl
theorem m_add_f {c : Cell} : (M.add false c).m = M.m := rfl
theorem cut_m {M' : Mem} (h : M'.m = M.m) : M'.cut M.m.length = M' := by
  rw [← h]
  exact cut_self
theorem put_u {n : Nat} : putD "undone" (.cell false n) (flds cur d u) = flds cur d n := by
  have h1 : ("most" : Str) ≠ "undone" := by decide +kernel
  have h2 : ("current" : Str) ≠ "undone" := by decide +kernel
  have h3 : ("done" : Str) ≠ "undone" := by decide +kernel
  simp [putD, flds, h1, h2, h3]
theorem put_c {c : List Str} : putD "current" (.p (.list (dS c))) (flds cur d u) = flds c d u := by
  have h1 : ("most" : Str) ≠ "current" := by decide +kernel
  simp [putD, flds, h1]
theorem at_ne {j k : Nat} {c : Cell} (h : j ≠ k) : (M.set false j c).at_ false k = M.at_ false k := Mem.at_set_ne fun z => h z.2
/-- the store is as it was, but at l, d, u -/
structure OFr (l d u : Nat) (M M' : Mem) : Prop where
  len : M.o.length ≤ M'.o.length
  at_ : ∀ j, j < M.o.length → j ≠ l → j ≠ d → j ≠ u → M'.o[j]? = M.o[j]?
theorem wp_after {c : Cm} (L : LiveAt M l d u cur dn un) (hns : Ns ns) (hl : ns.length ≤ 40) {p : List Str} (hp : PathOk ns p) (hc : CmOk ns c) (q : Q (.p (.list (dS (stp p c)))) M) : (F_Live_after [.cell false l, .p (.list (dS p)), .p (dC c)] M).wp Q E := by
  unfold F_Live_after b_Live_after
  simp [startS]
  refine wp_is_command hns hc ?_
  simp
  refine wp_apply hns (by omega) hp hc ?_
  simp
  refine wp_len rfl ?_
  refine wp_fld L.ho (by simp) rfl ?_
  have := (hp.stp hc.n).len
  simp
  rw [decide_eq_false (by omega)]
  simp
  rw [cut_self]
  exact q
def IDo (M : Mem) (ns : List Str) (x0 x1 : Dt) (fin : List Str) (rest : List PyData) (s : SS) (M' : Mem) : Prop := ∃ p cs x3, M' = M ∧ PathOk ns p ∧ rest = dCs cs ∧ (∀ c ∈ cs, CmOk ns c) ∧ run p cs = fin ∧ s = [some x0, some x1, some (.p (.list (dS p))), x3]
theorem intact_refl {src : Src} : Intact src M M := fun _ _ _ => rfl
theorem lst_seq {x : Dt} {ds : List PyData} (h : lstOf M x = some ds) : seqOf M x = some ds := by simp [seqOf, h]
theorem wp_do_all {x : Dt} {cs : List Cm} (L : LiveAt M l d u cur dn un) (hns : Ns ns) (hl : ns.length ≤ 40) (hp : PathOk ns cur) (hx : lstOf M x = some (dCs cs)) (hc : ∀ c ∈ cs, CmOk ns c) (hcl : cs.length ≤ 1000) (hdl : dn.length ≤ 1000)
    (q : ∀ M', M'.m = M.m → OFr l d u M M' → LiveAt M' l d M.o.length (run cur cs) (dn ++ [(cs, cur)]) [] → Q (.p .none) M') : (F_Live_do_all [.cell false l, x] M).wp Q E := by
  unfold F_Live_do_all b_Live_do_all
  simp [startS]
  refine wp_fld L.ho (by simp) rfl ?_
  try simp
  refine wp_aSeqI_l ?_
  simp
  refine ⟨_, hx, ?_⟩
  refine wp_forL (fun rest s M' => IDo M ns (.cell false l) x (run cur cs) rest s M') ?_ ?_ _ _ _ ⟨cur, cs, none, rfl, hp, rfl, hc, rfl, rfl⟩
  · rintro d0 ds s M' ⟨p, cs2, x3, rfl, hp2, e, hc2, fin, rfl⟩
    cases cs2 with
    | nil => simp at e
    | cons c cs2 =>
      simp at e
      obtain ⟨rfl, rfl⟩ := e
      refine ⟨_, rfl, ?_⟩
      simp
      have hcc := hc2 c (by simp)
      refine ⟨_, obj_of L.ho, rfl, ?_⟩
      refine wp_after L hns hl hp2 hcc ?_
      exact ⟨intact_refl, _, cs2, _, rfl, hp2.stp hcc.n, rfl, fun c h => hc2 c (by simp [h]), fin, rfl⟩
  · rintro s M' ⟨p, cs2, x3, rfl, hp2, e, hc2, fin, rfl⟩
    have r0 : cs2 = [] := by
      cases cs2 with
      | nil => rfl
      | cons z r => simp at e
    subst r0
    have fin' : p = run cur cs := fin
    subst fin'
    simp
    refine wp_fld L.ho (by simp) rfl ?_
    refine ⟨by rw [lst_cell L.hd]; rfl, ?_⟩
    refine ⟨_, lst_seq hx, ?_⟩
    refine wp_fld L.ho (by simp) rfl ?_
    simp [sizeLine]
    refine wp_append L.hd (by simp [sizeLine]; omega) ?_
    have a1 : ((M'.set false d (.lst (dPs dn ++ [dP (cs, cur)]))).add false (.lst [])).at_ false l = some (.obj 0 (flds cur d u)) := at_add_old (by rw [at_ne L.ld.symm]; exact L.ho)
    have sz : (M'.set false d (.lst (dPs dn ++ [dP (cs, cur)]))).size false = M'.o.length := size_set
    have a1' := a1
    have dlt := at_size L.hd
    rw [show PyData.tuple [PyData.list (dCs cs), PyData.list (dS cur)] = dP (cs, cur) from rfl, sz]
    refine wp_setF a1 (by simp) (by simp [flds]) trivial ?_
    rw [put_u]
    refine wp_setF (Mem.at_set_self a1) (by simp) (by simp [flds]) trivial ?_
    rw [put_c]
    rw [cut_m (by rfl)]
    refine q _ rfl ⟨by simp [Mem.set, Mem.add], fun j hj h1 h2 h3 => ?_⟩ ⟨?_, ?_, ?_, ?_⟩
    · simp only [Mem.set, Mem.add]
      rw [List.getElem?_set_ne h1.symm, List.getElem?_set_ne h1.symm, List.getElem?_append_left (by simpa using hj), List.getElem?_set_ne h2.symm]
    · rw [Mem.at_set_self (Mem.at_set_self a1)]
    · rw [at_ne L.ld, at_ne L.ld]
      rw [at_add_old (Mem.at_set_self L.hd)]
      simp
    · have e : l ≠ M'.o.length := by
        have := at_size L.ho
        simp [Mem.size] at this
        omega
      rw [at_ne e, at_ne e, ← sz]
      exact at_add_new
    · simp [Mem.size] at dlt
      omega
theorem wp_do {c : Cm} (L : LiveAt M l d u cur dn un) (hns : Ns ns) (hl : ns.length ≤ 40) (hp : PathOk ns cur) (hc : CmOk ns c) (hdl : dn.length ≤ 1000)
    (q : ∀ M', M'.m = M.m → OFr l d u M M' → LiveAt M' l d M.o.length (run cur [c]) (dn ++ [([c], cur)]) [] → Q (.p .none) M') : (F_Live_do [.cell false l, .p (dC c)] M).wp Q E := by
  unfold F_Live_do b_Live_do
  simp [startS]
  refine ⟨_, obj_of L.ho, rfl, by simp [sizeLine], ?_⟩
  refine wp_do_all (x := .p (.list [dC c])) (cs := [c]) L hns hl hp rfl (by simpa using hc) (by simp) hdl fun M' hm fr L' => ?_
  rw [cut_m hm]
  exact q M' hm fr L'
theorem gd_Ps {dn : List Step} (hns : Ns ns) (hl : ns.length ≤ 1000) (h : ∀ s ∈ dn, StOk ns s) : SeqAt.shaped (.list (dPs dn)) = true := by
  refine (Gd.list (k := 3) (b := 200000) (fun x hx => ?_) (Nat.le_refl _)).shaped (by omega)
  obtain ⟨s, hs, rfl⟩ := List.mem_map.mp hx
  exact gd_P hns hl (h s hs)
theorem shp_nil : SeqAt.shaped (.list []) = true := by decide +kernel
theorem eqv_nil {ds : List PyData} : PyData.eqv (.list ds) (.list []) = ds.isEmpty := by
  cases ds <;> simp [PyData.eqv, PyData.eqvAll]
theorem ie_app {α : Type} {l : List α} {x : α} : (l ++ [x]).isEmpty = false := by cases l <;> rfl
theorem wp_undo0 (L : LiveAt M l d u cur [] un) (q : Q (.p (.bool false)) M) : (F_Live_undo [.cell false l] M).wp Q E := by
  unfold F_Live_undo b_Live_undo
  simp [startS]
  refine wp_fld L.ho (by simp) rfl ?_
  simp [sizeLine]
  refine wp_eq (dat_cell L.hd) rfl ⟨shp_nil, shp_nil⟩ ?_
  rw [eqv_nil]
  simp
  rw [cut_self]
  exact q
theorem wp_undo1 {s : Step} (L : LiveAt M l d u cur (dn ++ [s]) un) (hns : Ns ns) (hl : ns.length ≤ 1000) (hd : ∀ t ∈ dn ++ [s], StOk ns t) (hul : un.length ≤ 1000)
    (q : ∀ M', M'.m = M.m → M'.o.length = M.o.length → OFr l d u M M' → LiveAt M' l d u s.2 dn (un ++ [(s.1, cur)]) → Q (.p (.bool true)) M') : (F_Live_undo [.cell false l] M).wp Q E := by
  unfold F_Live_undo b_Live_undo
  simp [startS]
  refine wp_fld L.ho (by simp) rfl ?_
  simp [sizeLine]
  refine wp_eq (dat_cell L.hd) rfl ⟨gd_Ps hns hl hd, shp_nil⟩ ?_
  rw [eqv_nil]
  simp [ie_app]
  refine wp_fld L.ho (by simp) rfl ?_
  have hd' : M.at_ false d = some (.lst (dPs dn ++ [dP s])) := by
    rw [L.hd]
    simp
  refine ⟨by rw [lst_cell hd']; rfl, ?_⟩
  refine wp_pop hd' ?_
  refine ⟨_, rfl, ?_⟩
  have o1 : (M.set false d (.lst (dPs dn))).at_ false l = some (.obj 0 (flds cur d u)) := by
    rw [at_ne L.ld.symm]
    exact L.ho
  have u1 : (M.set false d (.lst (dPs dn))).at_ false u = some (.lst (dPs un)) := by
    rw [at_ne L.ne]
    exact L.hu
  simp
  refine wp_fld o1 (by simp) rfl ?_
  refine ⟨by rw [lst_cell u1]; rfl, ?_⟩
  refine wp_fld o1 (by simp) rfl ?_
  simp [sizeLine]
  refine wp_append u1 (by simp [sizeLine]; omega) ?_
  rw [show PyData.tuple [PyData.list (dCs s.1), PyData.list (dS cur)] = dP (s.1, cur) from rfl]
  have o2 : ((M.set false d (.lst (dPs dn))).set false u (.lst (dPs un ++ [dP (s.1, cur)]))).at_ false l = some (.obj 0 (flds cur d u)) := by
    rw [at_ne L.lu.symm]
    exact o1
  refine wp_setF o2 (by simp) (by simp [flds]) trivial ?_
  rw [put_c, cut_m (by rfl)]
  refine q _ rfl (by simp [Mem.set]) ⟨by simp [Mem.set], fun j hj h1 h2 h3 => by
    simp only [Mem.set]
    rw [List.getElem?_set_ne h1.symm, List.getElem?_set_ne (Ne.symm (by assumption)), List.getElem?_set_ne (Ne.symm (by assumption))]⟩ ⟨?_, ?_, ?_, L.ne⟩
  · exact Mem.at_set_self o2
  · rw [at_ne L.ld, at_ne L.ne.symm]
    exact Mem.at_set_self hd'
  · rw [at_ne L.lu, Mem.at_set_self u1]
    simp
theorem wp_redo0 (L : LiveAt M l d u cur dn []) (q : Q (.p (.bool false)) M) : (F_Live_redo [.cell false l] M).wp Q E := by
  unfold F_Live_redo b_Live_redo
  simp [startS]
  refine wp_fld L.ho (by simp) rfl ?_
  simp [sizeLine]
  refine wp_eq (dat_cell L.hu) rfl ⟨shp_nil, shp_nil⟩ ?_
  rw [eqv_nil]
  simp
  rw [cut_self]
  exact q
theorem wp_redo1 {s : Step} (L : LiveAt M l d u cur dn (un ++ [s])) (hns : Ns ns) (hl : ns.length ≤ 1000) (hd : ∀ t ∈ un ++ [s], StOk ns t) (hul : dn.length ≤ 1000)
    (q : ∀ M', M'.m = M.m → M'.o.length = M.o.length → OFr l d u M M' → LiveAt M' l d u s.2 (dn ++ [(s.1, cur)]) un → Q (.p (.bool true)) M') : (F_Live_redo [.cell false l] M).wp Q E := by
  unfold F_Live_redo b_Live_redo
  simp [startS]
  refine wp_fld L.ho (by simp) rfl ?_
  simp [sizeLine]
  refine wp_eq (dat_cell L.hu) rfl ⟨gd_Ps hns hl hd, shp_nil⟩ ?_
  rw [eqv_nil]
  simp [ie_app]
  refine wp_fld L.ho (by simp) rfl ?_
  have hu' : M.at_ false u = some (.lst (dPs un ++ [dP s])) := by
    rw [L.hu]
    simp
  refine ⟨by rw [lst_cell hu']; rfl, ?_⟩
  refine wp_pop hu' ?_
  refine ⟨_, rfl, ?_⟩
  have o1 : (M.set false u (.lst (dPs un))).at_ false l = some (.obj 0 (flds cur d u)) := by
    rw [at_ne L.lu.symm]
    exact L.ho
  have d1 : (M.set false u (.lst (dPs un))).at_ false d = some (.lst (dPs dn)) := by
    rw [at_ne L.ne.symm]
    exact L.hd
  simp
  refine wp_fld o1 (by simp) rfl ?_
  refine ⟨by rw [lst_cell d1]; rfl, ?_⟩
  refine wp_fld o1 (by simp) rfl ?_
  simp [sizeLine]
  refine wp_append d1 (by simp [sizeLine]; omega) ?_
  rw [show PyData.tuple [PyData.list (dCs s.1), PyData.list (dS cur)] = dP (s.1, cur) from rfl]
  have o2 : ((M.set false u (.lst (dPs un))).set false d (.lst (dPs dn ++ [dP (s.1, cur)]))).at_ false l = some (.obj 0 (flds cur d u)) := by
    rw [at_ne L.ld.symm]
    exact o1
  refine wp_setF o2 (by simp) (by simp [flds]) trivial ?_
  rw [put_c, cut_m (by rfl)]
  refine q _ rfl (by simp [Mem.set]) ⟨by simp [Mem.set], fun j hj h1 h2 h3 => by
    simp only [Mem.set]
    rw [List.getElem?_set_ne h1.symm, List.getElem?_set_ne (Ne.symm (by assumption)), List.getElem?_set_ne (Ne.symm (by assumption))]⟩ ⟨?_, ?_, ?_, L.ne⟩
  · exact Mem.at_set_self o2
  · rw [at_ne L.ld, Mem.at_set_self d1]
    simp
  · rw [at_ne L.lu, at_ne L.ne]
    exact Mem.at_set_self hu'
/-! ### its path, its history -/
theorem wp_lpath (L : LiveAt M l d u cur dn un) (q : Q (.cell true M.m.length) (M.add true (.lst (dS cur)))) : (F_Live_pathC [.cell false l] M).wp Q E := by
  unfold F_Live_pathC b_Live_path
  simp [startS]
  refine wp_fld L.ho (by simp) rfl ?_
  refine ⟨_, rfl, ?_⟩
  refine wp_outC_c (Nat.le_refl _) at_add_new ?_
  rw [cut_add]
  exact q
def IHi (M : Mem) (x0 : Dt) (dn : List Step) (rest : List PyData) (s : SS) (M' : Mem) : Prop := ∃ l r f x2 x3, f = (l.map (·.1)).flatten ∧ M' = M.add true (.lst (dCs f)) ∧ rest = dPs r ∧ l ++ r = dn ∧ s = [some x0, some (.cell true (M.size true)), x2, x3]
theorem wp_hist (L : LiveAt M l d u cur dn un) (hl : (dn.map (·.1)).flatten.length ≤ 100000) (q : Q (.cell true M.m.length) (M.add true (.lst (dCs (dn.map (·.1)).flatten)))) : (F_Live_historyC [.cell false l] M).wp Q E := by
  unfold F_Live_historyC b_Live_history
  simp [startS, sizeLine]
  refine wp_aSeqI_l ?_
  simp
  refine wp_fld (at_add_old L.ho) (by simp) rfl ?_
  refine ⟨_, lst_cell (at_add_old L.hd), ?_⟩
  refine wp_forL (fun rest s M' => IHi M (.cell false l) dn rest s M') ?_ ?_ _ _ _ ⟨[], dn, [], none, none, rfl, rfl, rfl, rfl, rfl⟩
  · rintro d0 ds s M' ⟨a, r, f, x2, x3, hf, rfl, e, hlr, rfl⟩
    cases r with
    | nil => simp at e
    | cons z r =>
      simp at e
      obtain ⟨rfl, rfl⟩ := e
      refine ⟨_, rfl, ?_⟩
      simp
      have atd : (M.add true (.lst (dCs f))).at_ true (M.size true) = some (.lst (dCs f)) := at_add_new
      refine ⟨by rw [lst_cell atd]; rfl, ?_⟩
      refine wp_extend atd rfl ?_ ⟨?_, a ++ [z], r, f ++ z.1, _, _, by rw [hf]; simp, ?_, rfl, by simpa using hlr, rfl⟩
      · have : f.length + z.1.length ≤ (dn.map (·.1)).flatten.length := by
          rw [← hlr, hf]
          simp
        simp only [List.length_map, sizeLine]
        omega
      · rw [set_add_new]
        intro b j e
        cases e
        rw [at_add_old L.hd, at_add_old L.hd]
      · rw [set_add_new]
        simp
  · rintro s M' ⟨a, r, f, x2, x3, hf, rfl, e, hlr, rfl⟩
    have r0 : r = [] := by
      cases r with
      | nil => rfl
      | cons z r => simp at e
    subst r0
    simp at hlr
    subst hlr
    subst hf
    simp [-List.map_flatten]
    refine wp_outC_c (Nat.le_refl _) at_add_new ?_
    rw [cut_add]
    exact q
end
end G

set_option Elab.async false
set_option linter.all false
set_option maxRecDepth 100000
/-! PS: what stands. -/
namespace G
open PySem PySem.Spec PyProof.Rows L2 DL
def dnOf : List Str → List (List Cm) → List Step
  | _, [] => []
  | q, s :: S => (s, q) :: dnOf (run q s) S
def unOf : List Str → List (List Cm) → List Step
  | _, [] => []
  | q, s :: S => unOf (run q s) S ++ [(s, run q s)]
theorem run_app (p : List Str) (a b : List Cm) : run p (a ++ b) = run (run p a) b := List.foldl_append
theorem dnOf_snoc : ∀ (S : List (List Cm)) (q : List Str) (s : List Cm), dnOf q (S ++ [s]) = dnOf q S ++ [(s, run q S.flatten)]
  | [], q, s => rfl
  | a :: S, q, s => by
    simp only [List.cons_append, dnOf, dnOf_snoc S, List.flatten_cons, run_app]
theorem dnOf_fst : ∀ (S : List (List Cm)) (q : List Str), (dnOf q S).map (·.1) = S
  | [], _ => rfl
  | a :: S, q => by simp [dnOf, dnOf_fst S]
theorem dnOf_len : ∀ (S : List (List Cm)) (q : List Str), (dnOf q S).length = S.length
  | [], _ => rfl
  | a :: S, q => by simp [dnOf, dnOf_len S]
theorem unOf_len : ∀ (S : List (List Cm)) (q : List Str), (unOf q S).length = S.length
  | [], _ => rfl
  | a :: S, q => by simp [unOf, unOf_len S]
structure SOk (ns : List Str) (S : List (List Cm)) : Prop where
  c : ∀ s ∈ S, ∀ c ∈ s, CmOk ns c
  n : ∀ s ∈ S, s.length ≤ 1000
theorem dnOf_ok {ns : List Str} : ∀ {S : List (List Cm)} {q : List Str}, SOk ns S → PathOk ns q → ∀ t ∈ dnOf q S, StOk ns t
  | [], _, _, _ => fun t ht => by cases ht
  | a :: S, q, h, hq => fun t ht => by
    rcases List.mem_cons.mp ht with rfl | ht
    · exact ⟨h.c a (by simp), hq, h.n a (by simp)⟩
    · exact dnOf_ok (S := S) ⟨fun s hs => h.c s (by simp [hs]), fun s hs => h.n s (by simp [hs])⟩ (hq.run fun c hc => (h.c a (by simp) c hc).n) t ht
theorem unOf_ok {ns : List Str} : ∀ {S : List (List Cm)} {q : List Str}, SOk ns S → PathOk ns q → ∀ t ∈ unOf q S, StOk ns t
  | [], _, _, _ => fun t ht => by cases ht
  | a :: S, q, h, hq => fun t ht => by
    have hr : PathOk ns (run q a) := hq.run fun c hc => (h.c a (by simp) c hc).n
    rcases List.mem_append.mp ht with ht | ht
    · exact unOf_ok (S := S) ⟨fun s hs => h.c s (by simp [hs]), fun s hs => h.n s (by simp [hs])⟩ hr t ht
    · simp at ht
      rw [ht]
      exact ⟨h.c a (by simp), hr, h.n a (by simp)⟩
theorem SOk.flat {ns : List Str} {S : List (List Cm)} (h : SOk ns S) : ∀ c ∈ S.flatten, CmOk ns c := fun c hc => by
  obtain ⟨s, hs, hc⟩ := List.mem_flatten.mp hc
  exact h.c s hs c hc
def stC (start : List Str) (S : List (List Cm)) (p : Int) : Cell := .lst [.list (dS start), .list (dSt S), .int p]
/-- the live path and what the law expects of it -/
structure Wl (ns start : List Str) (A B : List (List Cm)) (l d u k : Nat) (M : Mem) : Prop where
  L : LiveAt M l d u (run start A.flatten) (dnOf start A) (unOf (run start A.flatten) B)
  st : M.at_ true k = some (stC start (A ++ B) A.length)
structure Cx45 (ns start : List Str) (A B : List (List Cm)) : Prop where
  hs : Ns ns
  nl : ns.length ≤ 40
  sp : PathOk ns start
  ok : SOk ns (A ++ B)
  n1 : (A ++ B).flatten.length ≤ 1000
  n2 : (A ++ B).length ≤ 1000
theorem SOk.left {ns : List Str} {A B : List (List Cm)} (h : SOk ns (A ++ B)) : SOk ns A := ⟨fun s hs => h.c s (by simp [hs]), fun s hs => h.n s (by simp [hs])⟩
theorem SOk.right {ns : List Str} {A B : List (List Cm)} (h : SOk ns (A ++ B)) : SOk ns B := ⟨fun s hs => h.c s (by simp [hs]), fun s hs => h.n s (by simp [hs])⟩
theorem Cx45.cur {ns start : List Str} {A B : List (List Cm)} (h : Cx45 ns start A B) : PathOk ns (run start A.flatten) := h.sp.run fun c hc => (h.ok.left.flat c hc).n
theorem atI2 {x y z : PyData} {l : List PyData} : atI (x :: y :: z :: l) 2 = some z := by
  have h : ((2 : Int) < (l.length : Int) + 1 + 1 + 1) := by omega
  simp [atI, ixN, h]
theorem cutD_take {ds : List PyData} {n : Nat} : DL.cutD ds none (some (n : Int)) = ds.take n := by
  unfold DL.cutD
  rw [sIx_none, sIx_nat (by omega)]
  simp
theorem cutD_init {ds : List PyData} {x : PyData} : DL.cutD (ds ++ [x]) none (some (-1)) = ds := by
  unfold DL.cutD
  rw [sIx_none]
  have e : HT.sIx (ds ++ [x]).length (ds ++ [x]).length (some (-1)) = ds.length := by
    simp [HT.sIx]
    omega
  rw [e]
  simp
end G

set_option Elab.async false
set_option linter.all false
set_option maxRecDepth 100000
/-! PT0: undo, redo, what is common -/
namespace G
open PySem PySem.Spec PyProof.Rows L2 DL
section
variable {M : Mem} {E : XE} {i : Nat} {Q : Dt → Mem → Prop} {ns start : List Str} {A B : List (List Cm)} {l d u k : Nat}
theorem TM.o {M' : Mem} (h : TM i M M') : M'.o = M.o := by
  obtain ⟨a, s, rfl, _⟩ := h
  rfl
theorem TM.off {M' : Mem} (h : TM i M M') {j : Nat} (n : j ≠ i) : M'.m[j]? = M.m[j]? := h.at_ (b := true) (j := j) fun z => n z.2.symm
theorem ixN2 {n : Nat} : ixN (n + 1 + 1 + 1) 2 = some 2 := by
  have h : ((2 : Int) < (n : Int) + 1 + 1 + 1) := by omega
  simp [ixN, h]
theorem Cx45.snoc {cs : List Cm} (C : Cx45 ns start A B) (hc : ∀ c ∈ cs, CmOk ns c) {b : Nat} (hn : cs.length ≤ 4) (h1 : (A ++ B).flatten.length ≤ b) (h2 : (A ++ B).length ≤ b) (hb : b + 4 ≤ 1000) : Cx45 ns start (A ++ [cs]) [] ∧ ((A ++ [cs]) ++ []).flatten.length ≤ b + 4 ∧ ((A ++ [cs]) ++ []).length ≤ b + 4 := by
  have e1 : ((A ++ [cs]) ++ []).flatten.length ≤ b + 4 := by
    simp at h1 ⊢
    omega
  have e2 : ((A ++ [cs]) ++ []).length ≤ b + 4 := by
    simp at h2 ⊢
    omega
  refine ⟨⟨C.hs, C.nl, C.sp, ⟨?_, ?_⟩, by omega, by omega⟩, e1, e2⟩
  · intro s hs
    simp at hs
    rcases hs with hs | rfl
    · exact C.ok.c s (by simp [hs])
    · exact hc
  · intro s hs
    simp at hs
    rcases hs with hs | rfl
    · exact C.ok.n s (by simp [hs])
    · omega
theorem live_snoc {M' : Mem} {cs : List Cm} {u' : Nat} (L : LiveAt M' l d u' (run (run start A.flatten) cs) (dnOf start A ++ [(cs, run start A.flatten)]) []) : LiveAt M' l d u' (run start (A ++ [cs]).flatten) (dnOf start (A ++ [cs])) (unOf (run start (A ++ [cs]).flatten) []) := by
  rw [dnOf_snoc]
  have e : run start (A ++ [cs]).flatten = run (run start A.flatten) cs := by
    rw [← run_app]
    simp
  rw [e]
  exact L
theorem cut_len {n : Nat} (h : M.m.length = n) : M.cut n = M := by
  rw [← h]
  exact cut_self
theorem stC_snoc (start : List Str) (A : List (List Cm)) (cs : List Cm) : Cell.lst ([PyData.list (dS start), .list (List.map (fun cs => PyData.list (dCs cs)) A ++ [.list (dCs cs)]), .int A.length].set 2 (.int (A.length + 1))) = stC start ((A ++ [cs]) ++ []) (A ++ [cs]).length := by
  simp [stC]
@[simp] theorem wp_eqB {neg : Bool} {a c : Bool} : (eqD neg (.p (.bool a)) (.p (.bool c)) M).wp Q E = Q (.p (.bool (if neg then !decide (a = c) else decide (a = c)))) M := by
  have h : ∀ i : Bool, SeqAt.shaped (.bool i) = true := fun i => by simp [SeqAt.shaped, PyData.canLay0, PyData.depth]
  have e : PyData.eqv (.bool a) (.bool c) = decide (a = c) := by cases a <;> cases c <;> simp [PyData.eqv]
  simp only [eqD, DL.strOf, dat, h, and_self, if_true, wp_ok, e]
theorem wp_undoG (L : LiveAt M l d u (run start A.flatten) (dnOf start A) (unOf (run start A.flatten) B)) (C : Cx45 ns start A B)
    (q0 : A = [] → Q (.p (.bool false)) M)
    (q1 : ∀ A0 s M', A = A0 ++ [s] → M'.m = M.m → OFr l d u M M' → LiveAt M' l d u (run start A0.flatten) (dnOf start A0) (unOf (run start A0.flatten) (s :: B)) → Cx45 ns start A0 (s :: B) → Q (.p (.bool true)) M') : (F_Live_undo [.cell false l] M).wp Q E := by
  have nl := C.nl
  rcases List.eq_nil_or_concat A with rfl | ⟨A0, s, e⟩
  · exact wp_undo0 L (q0 rfl)
  · rw [List.concat_eq_append] at e
    subst e
    have ok := dnOf_ok C.ok.left C.sp
    have ul : (unOf (run start (A0 ++ [s]).flatten) B).length ≤ 1000 := by
      rw [unOf_len]
      have := C.n2
      simp at this
      omega
    rw [dnOf_snoc] at L ok
    refine wp_undo1 L C.hs (by omega) ok ul fun M' hm _ fr L' => ?_
    refine q1 A0 s M' rfl hm fr ?_ ⟨C.hs, C.nl, C.sp, ?_, ?_, ?_⟩
    · have e : run start (A0 ++ [s]).flatten = run (run start A0.flatten) s := by
        rw [← run_app]
        simp
      rw [e] at L'
      exact L'
    · have := C.ok
      simpa using this
    · have := C.n1
      simpa using this
    · have := C.n2
      simpa using this
theorem wp_redoG (L : LiveAt M l d u (run start A.flatten) (dnOf start A) (unOf (run start A.flatten) B)) (C : Cx45 ns start A B)
    (q0 : B = [] → Q (.p (.bool false)) M)
    (q1 : ∀ B0 s M', B = s :: B0 → M'.m = M.m → OFr l d u M M' → LiveAt M' l d u (run start (A ++ [s]).flatten) (dnOf start (A ++ [s])) (unOf (run start (A ++ [s]).flatten) B0) → Cx45 ns start (A ++ [s]) B0 → Q (.p (.bool true)) M') : (F_Live_redo [.cell false l] M).wp Q E := by
  have nl := C.nl
  cases B with
  | nil => exact wp_redo0 L (q0 rfl)
  | cons s B0 =>
    have ok := unOf_ok C.ok.right C.cur
    have dl : (dnOf start A).length ≤ 1000 := by
      rw [dnOf_len]
      have := C.n2
      simp at this
      omega
    rw [unOf] at L ok
    refine wp_redo1 L C.hs (by omega) ok dl fun M' hm _ fr L' => ?_
    refine q1 B0 s M' rfl hm fr ?_ ⟨C.hs, C.nl, C.sp, ?_, ?_, ?_⟩
    · have e : run start (A ++ [s]).flatten = run (run start A.flatten) s := by
        rw [← run_app]
        simp
      rw [e, dnOf_snoc]
      exact L'
    · have := C.ok
      simpa using this
    · have := C.n1
      simpa using this
    · have := C.n2
      simpa using this
theorem stC_set (start : List Str) (S : List (List Cm)) (p q : Int) : Cell.lst ([PyData.list (dS start), .list (dSt S), .int p].set 2 (.int q)) = stC start S q := rfl
end
end G

set_option Elab.async false
set_option linter.all false
set_option maxRecDepth 100000
/-! PV0: loops, a new live path -/
namespace G
open PySem PySem.Spec PyProof.Rows L2 DL
section
variable {M : Mem} {E : XE} {i : Nat} {Q : Dt → Mem → Prop} {ns start : List Str} {A B : List (List Cm)} {l d u k : Nat}
theorem wp_while {t : SS → Mem → Rs Bool} {fb : SS → Mem → Rs Fl} {QF : Fl → Mem → Prop} (I : Nat → SS → Mem → Prop)
    (step : ∀ n s M, I n s M → (t s M).wp (fun b M1 => Br b (∃ m, n = m + 1 ∧ (fb s M1).wp (fun x M2 => match x with
      | .nx s2 => I m s2 M2
      | .ct s2 => I m s2 M2
      | .bk s2 => QF (.nx s2) M2
      | .rt r => QF (.rt r) M2) E) (QF (.nx s) M1)) E) : ∀ (N n : Nat) (s : SS) (M : Mem), n < N → I n s M → (whileL t fb N s M).wp QF E
  | 0, n, s, M, h, _ => by omega
  | N + 1, n, s, M, h, hi => by
    have w := step n s M hi
    simp only [whileL]
    cases z : t s M with
    | ok b M1 =>
      rw [z] at w
      simp only [wp_ok] at w
      cases b with
      | false => exact w.f rfl
      | true =>
        obtain ⟨m, hm, w2⟩ := w.t rfl
        simp only
        cases z2 : fb s M1 with
        | ok x M2 =>
          rw [z2] at w2
          cases x with
          | nx s2 => exact wp_while I step N m s2 M2 (by omega) w2
          | ct s2 => exact wp_while I step N m s2 M2 (by omega) w2
          | bk s2 => exact w2
          | rt r => exact w2
        | ex c M2 =>
          rw [z2] at w2
          exact w2
        | st =>
          rw [z2] at w2
          exact w2
    | ex c M1 =>
      rw [z] at w
      exact w
    | st =>
      rw [z] at w
      exact w
theorem wp_aWhile {t : SS → Mem → Rs Bool} {fb : SS → Mem → Rs Fl} {QF : Fl → Mem → Prop} {s : SS} (I : Nat → SS → Mem → Prop) (n : Nat) (hn : n ≤ 100000) (h : I n s M)
    (step : ∀ n s M, I n s M → (t s M).wp (fun b M1 => Br b (∃ m, n = m + 1 ∧ (fb s M1).wp (fun x M2 => match x with
      | .nx s2 => I m s2 M2
      | .ct s2 => I m s2 M2
      | .bk s2 => QF (.nx s2) M2
      | .rt r => QF (.rt r) M2) E) (QF (.nx s) M1)) E) : (aWhile t fb s M).wp QF E :=
  wp_while I step fuel n s M (by unfold fuel; omega) h
theorem wp_init {x : Dt} {ps : List Str} {n : Nat} (ho : M.at_ false n = some (.obj 0 [])) (hn : n + 1 = M.o.length) (hx : lstOf M x = some (dS ps)) (hns : Ns ns) (hl : ns.length ≤ 40) (hp : PathOk ns ps)
    (q : ∀ M', M'.m = M.m → (M'.o.length = n + 3 ∧ ∀ j, j < n → M'.o[j]? = M.o[j]?) → LiveAt M' n (n + 1) (n + 2) ps [] [] → Q (.p .none) M') : (F_Live_init [.cell false n, x, .p (.int 40)] M).wp Q E := by
  unfold F_Live_init b_Live_init
  have pl := hp.len
  try simp [startS]
  refine wp_is_path hx hp.nd (fun z hz => hns.nm z (hp.sub z hz)) (by omega) ?_
  try simp
  refine wp_len (lst_seq hx) ?_
  try simp
  rw [decide_eq_false (by omega)]
  try simp
  refine wp_setF ho (by simp) (by simp) trivial ?_
  have h1 := Mem.at_set_self (c := .obj 0 (putD "most" (.p (.int 40)) [])) ho
  have hx1 : lstOf (M.set false n (.obj 0 (putD "most" (.p (.int 40)) []))) x = some (dS ps) := by
    cases x with
    | p d => cases d <;> first | exact hx | cases hx
    | cell b j =>
      have z := lst_src hx b j rfl
      refine lst_cell ?_
      rw [Mem.at_set_ne fun e => ?_]
      · exact z
      · obtain ⟨rfl, rfl⟩ := e
        rw [ho] at z
        cases z
  refine ⟨_, lst_seq hx1, ?_⟩
  refine wp_setF h1 (by simp) (by simp [putD]) trivial ?_
  have h2 := Mem.at_set_self (c := .obj 0 (putD "current" (.p (.list (dS ps))) (putD "most" (.p (.int 40)) []))) h1
  have e0 : putD "current" (.p (.list (dS ps))) (putD "most" (.p (.int 40)) []) = [(("most" : Str), .p (.int 40)), ("current", .p (.list (dS ps)))] := by
    have h1 : ("most" : Str) ≠ "current" := by decide +kernel
    simp [putD, h1]
  rw [e0] at h2 ⊢
  rw [set_set] at h2 ⊢
  have nl : n < M.size false := at_size ho
  have sz : M.size false = n + 1 := hn.symm
  rw [size_set, sz]
  refine wp_setF (at_add_old h2) (by simp) (by simp) trivial ?_
  have e1 : putD "done" (.cell false (n + 1)) [(("most" : Str), .p (.int 40)), ("current", .p (.list (dS ps)))] = [(("most" : Str), .p (.int 40)), ("current", .p (.list (dS ps))), ("done", .cell false (n + 1))] := by
    have h1 : ("most" : Str) ≠ "done" := by decide +kernel
    have h2 : ("current" : Str) ≠ "done" := by decide +kernel
    simp [putD, h1, h2]
  rw [e1, set_add_old (by rw [size_set]; exact nl), set_set]
  have h3 : (M.set false n (.obj 0 [(("most" : Str), .p (.int 40)), ("current", .p (.list (dS ps))), ("done", .cell false (n + 1))])).at_ false n = some (.obj 0 [(("most" : Str), .p (.int 40)), ("current", .p (.list (dS ps))), ("done", .cell false (n + 1))]) := Mem.at_set_self ho
  have s4 : ((M.set false n (.obj 0 [(("most" : Str), .p (.int 40)), ("current", .p (.list (dS ps))), ("done", .cell false (n + 1))])).add false (.lst [])).size false = n + 2 := by
    have := sz
    simp [Mem.add, Mem.set, Mem.size] at this ⊢
    omega
  rw [s4]
  refine wp_setF (at_add_old (at_add_old h3)) (by simp) (by simp) trivial ?_
  have e2 : putD "undone" (.cell false (n + 2)) [(("most" : Str), .p (.int 40)), ("current", .p (.list (dS ps))), ("done", .cell false (n + 1))] = flds ps (n + 1) (n + 2) := by
    have h1 : ("most" : Str) ≠ "undone" := by decide +kernel
    have h2 : ("current" : Str) ≠ "undone" := by decide +kernel
    have h3 : ("done" : Str) ≠ "undone" := by decide +kernel
    simp [putD, flds, h1, h2, h3]
  rw [e2, cut_m (by rfl)]
  refine q _ rfl ⟨by simp [Mem.set, Mem.add]; omega, fun j hj => ?_⟩ ⟨Mem.at_set_self (at_add_old (at_add_old h3)), ?_, ?_, by omega⟩
  · simp only [Mem.set, Mem.add]
    rw [List.getElem?_set_ne (by omega), List.getElem?_append_left (by simp; omega), List.getElem?_append_left (by simp; omega), List.getElem?_set_ne (by omega)]
  · rw [at_ne (by omega)]
    refine at_add_old ?_
    have z : (M.set false n (.obj 0 [(("most" : Str), .p (.int 40)), ("current", .p (.list (dS ps))), ("done", .cell false (n + 1))])).size false = n + 1 := by rw [size_set]; exact sz
    have y := at_add_new (M := M.set false n (.obj 0 [(("most" : Str), .p (.int 40)), ("current", .p (.list (dS ps))), ("done", .cell false (n + 1))])) (b := false) (c := .lst [])
    rw [z] at y
    exact y
  · rw [at_ne (by omega), ← s4]
    exact at_add_new
end
end G

set_option Elab.async false
set_option linter.all false
set_option maxRecDepth 100000
/-! QA: two live paths (k47): a deed. -/
namespace G
open PySem PySem.Spec PyProof.Rows L2 DL
structure Wl7 (ns start : List Str) (A B : List (List Cm)) (l d u k : Nat) (M : Mem) : Prop where
  L : LiveAt M l d u (run start A.flatten) (dnOf start A) (unOf (run start A.flatten) B)
  st : M.at_ false k = some (stC start (A ++ B) A.length)
  kd : k ≠ d
  ku : k ≠ u
structure D7 (ns start : List Str) (l d u k i : Nat) (M : Mem) (b : Nat) (M' : Mem) : Prop where
  ex : ∃ A B u', Wl7 ns start A B l d u' k M' ∧ Cx45 ns start A B ∧ (A ++ B).flatten.length ≤ b + 6 ∧ (A ++ B).length ≤ b + 6 ∧ (u' = u ∨ M.o.length ≤ u')
  m : ∃ M2, TM i M M2 ∧ M'.m = M2.m
  ol : M.o.length ≤ M'.o.length
  o : ∀ j, j < M.o.length → j ≠ l → j ≠ d → j ≠ u → j ≠ k → M'.o[j]? = M.o[j]?
section
variable {M : Mem} {E : XE} {i : Nat} {Q : Dt → Mem → Prop} {ns start : List Str} {A B : List (List Cm)} {l d u k : Nat}
theorem Wl7.kl (W : Wl7 ns start A B l d u k M) : k ≠ l := fun e => by
  have h1 := W.L.ho
  have h2 := W.st
  rw [← e, h2] at h1
  cases h1
theorem LiveAt.setk {cur : List Str} {dn un : List Step} {c : Cell} (L : LiveAt M l d u cur dn un) (h1 : k ≠ l) (h2 : k ≠ d) (h3 : k ≠ u) : LiveAt (M.set false k c) l d u cur dn un :=
  ⟨by rw [at_ne h1]; exact L.ho, by rw [at_ne h2]; exact L.hd, by rw [at_ne h3]; exact L.hu, L.ne⟩
theorem Cx45.snoc6 {cs : List Cm} (C : Cx45 ns start A B) (hc : ∀ c ∈ cs, CmOk ns c) {b : Nat} (hn : cs.length ≤ 6) (h1 : (A ++ B).flatten.length ≤ b) (h2 : (A ++ B).length ≤ b) (hb : b + 6 ≤ 1000) : Cx45 ns start (A ++ [cs]) [] ∧ ((A ++ [cs]) ++ []).flatten.length ≤ b + 6 ∧ ((A ++ [cs]) ++ []).length ≤ b + 6 := by
  have e1 : ((A ++ [cs]) ++ []).flatten.length ≤ b + 6 := by
    simp at h1 ⊢
    omega
  have e2 : ((A ++ [cs]) ++ []).length ≤ b + 6 := by
    simp at h2 ⊢
    omega
  refine ⟨⟨C.hs, C.nl, C.sp, ⟨?_, ?_⟩, by omega, by omega⟩, e1, e2⟩
  · intro s hs
    simp at hs
    rcases hs with hs | rfl
    · exact C.ok.c s (by simp [hs])
    · exact hc
  · intro s hs
    simp at hs
    rcases hs with hs | rfl
    · exact C.ok.n s (by simp [hs])
    · omega
/-- the state is told of a step done -/
theorem d7_done {b : Nat} {M2 M3 : Mem} {cs : List Cm} (t : TM i M M2) (hm : M3.m = M2.m) (fr : OFr l d u M2 M3) (W : Wl7 ns start A B l d u k M) (C : Cx45 ns start A B) (hc : ∀ c ∈ cs, CmOk ns c) (hn : cs.length ≤ 6) (h1 : (A ++ B).flatten.length ≤ b) (h2 : (A ++ B).length ≤ b) (hb : b + 6 ≤ 1000)
    (L : LiveAt M3 l d M2.o.length (run (run start A.flatten) cs) (dnOf start A ++ [(cs, run start A.flatten)]) []) :
    D7 ns start l d u k i M b (M3.set false k (stC start ((A ++ [cs]) ++ []) (A ++ [cs]).length)) ∧ M3.at_ false k = some (stC start (A ++ B) A.length) := by
  have ko : k < M.o.length := at_size W.st
  have e2 : M2.o.length = M.o.length := by rw [t.o]
  have st3 : M3.at_ false k = some (stC start (A ++ B) A.length) := by
    have z := fr.at_ k (by omega) W.kl W.kd W.ku
    show M3.o[k]? = _
    rw [z, t.o]
    exact W.st
  refine ⟨⟨⟨A ++ [cs], [], M2.o.length, ⟨(live_snoc L).setk W.kl W.kd (by omega), Mem.at_set_self st3, W.kd, by omega⟩, (C.snoc6 hc hn h1 h2 hb).1, (C.snoc6 hc hn h1 h2 hb).2.1, (C.snoc6 hc hn h1 h2 hb).2.2, .inr (by omega)⟩, ⟨M2, t, hm⟩, ?_, ?_⟩, st3⟩
  · have := fr.len
    simp [Mem.set]
    omega
  · intro j hj a1 a2 a3 a4
    simp only [Mem.set]
    rw [List.getElem?_set_ne a4.symm, fr.at_ j (by omega) a1 a2 a3, t.o]
theorem D7.cut {b : Nat} {M' : Mem} (D : D7 ns start l d u k i M b M') : M'.cut M.m.length = M' := by
  obtain ⟨M2, t, e⟩ := D.m
  exact cut_len (by rw [e]; exact t.len)
theorem wp_deed7 {b sh : Nat} {cs0 : List Cm} (t : TA i M) (W : Wl7 ns start A B l d u k M) (C : Cx45 ns start A B) (hsh : M.at_ true sh = some (.lst (dCs cs0))) (hc0 : ∀ c ∈ cs0, CmOk ns c) (hn0 : cs0.length ≤ 6) (his : i ≠ sh)
    (h1 : (A ++ B).flatten.length ≤ b) (h2 : (A ++ B).length ≤ b) (hb : b + 6 ≤ 1000)
    (q : ∀ M', D7 ns start l d u k i M b M' → Q (.p (.bool true)) M') : (F_law_deed [.cell true i, .cell false l, .cell false k, .p (.list (dS ns)), .cell true sh] M).wp Q E := by
  unfold F_law_deed b_law_deed
  have nl := C.nl
  have Al : A.length ≤ b := by
    simp at h2
    omega
  have dl : (dnOf start A).length ≤ 1000 := by rw [dnOf_len]; omega
  have cur := C.cur
  try simp [startS]
  refine wp_draw t (by omega) (by omega) fun w M1 w0 w1 t1 => ?_
  have ta1 := t1.ta t
  have L1 := W.L.congr t1.o
  have st1 : M1.at_ false k = some (stC start (A ++ B) A.length) := by
    rw [t1.at_ fun z => by simp at z]
    exact W.st
  have sh1 : M1.at_ true sh = some (.lst (dCs cs0)) := by
    rw [t1.at_ fun z => his z.2]
    exact hsh
  try simp
  refine Br.dec (fun hw => ?_) (fun hw => ?_)
  · refine ⟨_, seq_cell sh1, ?_⟩
    refine Br.dec (fun hw2 => ?_) (fun hw2 => ?_)
    · refine wp_script ta1 C.hs (by omega) (by omega) (by omega) fun cs M2 t2 hc hlen => ?_
      obtain ⟨c, rfl⟩ : ∃ c, cs = [c] := by
        match cs, hlen with
        | [c], _ => exact ⟨c, rfl⟩
      have hcc := hc c (by simp)
      have L2 := L1.congr t2.o
      refine ⟨_, obj_of L2.ho, rfl, ?_⟩
      refine wp_ixL rfl atI0 ?_
      try simp
      refine wp_do L2 C.hs C.nl cur hcc dl fun M3 hm fr L3 => ?_
      obtain ⟨D, st3⟩ := d7_done (t1.trans t2) hm fr W C hc (by simp) h1 h2 hb L3
      refine wp_ixL (seq_cell st3) atI1 ?_
      refine wp_ixL (seq_cell st3) atI2 ?_
      refine ⟨_, rfl, ?_⟩
      refine wp_slP.mpr ?_
      rw [cutD_take]
      try simp [sizeLine]
      refine ⟨by omega, ?_⟩
      refine wp_setIx st3 ixN1 ?_
      refine wp_ixL (seq_cell (Mem.at_set_self st3)) atI2 ?_
      try simp
      refine wp_setIx (Mem.at_set_self st3) ixN2 ?_
      rw [set_set, show ([dC c] : List PyData) = dCs [c] from rfl, stC_snoc, D.cut]
      exact q _ D
    · refine ⟨_, obj_of L1.ho, rfl, ?_⟩
      refine wp_do_all L1 C.hs C.nl cur (lst_cell sh1) hc0 (by omega) dl fun M3 hm fr L3 => ?_
      obtain ⟨D, st3⟩ := d7_done t1 hm fr W C hc0 hn0 h1 h2 hb L3
      try simp
      refine wp_ixL (seq_cell st3) atI1 ?_
      try simp
      refine wp_ixL (seq_cell st3) atI2 ?_
      refine ⟨_, rfl, ?_⟩
      rw [cutD_take]
      try simp [sizeLine]
      refine ⟨by omega, ?_⟩
      refine wp_setIx st3 ixN1 ?_
      refine wp_ixL (seq_cell (Mem.at_set_self st3)) atI2 ?_
      try simp
      refine wp_setIx (Mem.at_set_self st3) ixN2 ?_
      rw [set_set, stC_snoc, D.cut]
      exact q _ D
  · have ko : k < M.o.length := at_size W.st
    have e1 : M1.o.length = M.o.length := by rw [t1.o]
    have fin : ∀ (p : Int) (M4 : Mem) (A' B' : List (List Cm)), A' ++ B' = A ++ B → p = A'.length → M4.m = (M1.set false k (stC start (A ++ B) p)).m → OFr l d u (M1.set false k (stC start (A ++ B) p)) M4 → LiveAt M4 l d u (run start A'.flatten) (dnOf start A') (unOf (run start A'.flatten) B') → Cx45 ns start A' B' → D7 ns start l d u k i M b M4 := by
      intro p M4 A' B' hAB hp hm fr L4 C4
      have ol := fr.len
      simp [Mem.set] at ol
      refine ⟨⟨A', B', u, ⟨L4, ?_, W.kd, W.ku⟩, C4, by rw [hAB]; omega, by rw [hAB]; omega, .inl rfl⟩, ⟨M1, t1, hm⟩, by omega, ?_⟩
      · have z := fr.at_ k (by simp [Mem.set]; omega) W.kl W.kd W.ku
        show M4.o[k]? = _
        rw [z, hAB, ← hp]
        exact Mem.at_set_self st1
      · intro j hj a1 a2 a3 a4
        rw [fr.at_ j (by simp [Mem.set]; omega) a1 a2 a3]
        simp only [Mem.set]
        rw [List.getElem?_set_ne a4.symm, t1.o]
    have ofr0 : ∀ M0 : Mem, OFr l d u M0 M0 := fun M0 => ⟨Nat.le_refl _, fun _ _ _ _ _ => rfl⟩
    refine Br.dec (fun hw3 => ?_) (fun hw3 => ?_)
    · refine wp_ixL (seq_cell st1) atI2 ?_
      try simp
      refine wp_ixL (seq_cell st1) atI2 ?_
      try simp
      refine wp_setIx st1 ixN2 ?_
      rw [stC_set]
      have L3 := L1.setk (c := stC start (A ++ B) (A.length - if 0 < A.length then 1 else 0)) W.kl W.kd W.ku
      refine ⟨_, obj_of L3.ho, rfl, ?_⟩
      refine wp_undoG L3 C (fun hA => ?_) (fun A0 s M4 hA hm fr L4 C4 => ?_)
      · have D := fin _ _ A B rfl (by simp [hA]) rfl (ofr0 _) L3 C
        have qq := q _ D
        rw [← D.cut] at qq
        simpa [hA] using qq
      · have D := fin _ M4 A0 (s :: B) (by rw [hA]; simp) (by rw [hA]; simp) hm fr L4 C4
        have qq := q _ D
        rw [← D.cut] at qq
        simpa [hA] using qq
    · refine wp_ixL (seq_cell st1) atI2 ?_
      try simp
      refine wp_ixL (seq_cell st1) atI1 ?_
      refine wp_len rfl ?_
      try simp
      refine wp_ixL (seq_cell st1) atI2 ?_
      try simp
      refine wp_setIx st1 ixN2 ?_
      have eb : ((A.length : Int) < A.length + B.length) = (0 < B.length) := by
        apply propext
        omega
      simp only [eb]
      rw [stC_set]
      have L3 := L1.setk (c := stC start (A ++ B) (A.length + if 0 < B.length then 1 else 0)) W.kl W.kd W.ku
      refine ⟨_, obj_of L3.ho, rfl, ?_⟩
      refine wp_redoG L3 C (fun hB => ?_) (fun B0 s M4 hB hm fr L4 C4 => ?_)
      · have D := fin _ _ A B rfl (by simp [hB]) rfl (ofr0 _) L3 C
        have qq := q _ D
        rw [← D.cut] at qq
        simpa [hB] using qq
      · have D := fin _ M4 (A ++ [s]) B0 (by rw [hB]; simp) (by rw [hB]; simp) hm fr L4 C4
        have qq := q _ D
        rw [← D.cut] at qq
        simpa [hB] using qq
end
end G

set_option Elab.async false
set_option linter.all false
set_option maxRecDepth 100000
/-! QB: two live paths (k47): the law. -/
namespace G
open PySem PySem.Spec PyProof.Rows L2 DL
section
variable {M : Mem} {E : XE} {i : Nat} {Q : Dt → Mem → Prop} {ns start : List Str} {A B : List (List Cm)} {l d u k : Nat} {s : SS} {fo f g : SS → Mem → Rs Dt} {fs fk : SS → Mem → Rs (List Dt)}
@[simp] theorem wp_aNewD : (aNewD fs s M).wp Q E = (fs s M).wp (fun xs M1 => xs.all Dt.outB = true ∧ xs.length ≤ sizeLine ∧ Q (.cell false (M1.size false)) (M1.add false (.lsd xs))) E := by
  simp only [aNewD, wp_bind, wp_ite, wp_ok, wp_st]
  congr 1; funext xs M1
  by_cases h : xs.all Dt.outB = true ∧ xs.length ≤ sizeLine
  · rw [if_pos h]
    exact propext ⟨fun q => ⟨h.1, h.2, q⟩, fun q => q.2.2⟩
  · rw [if_neg h]
    exact propext ⟨fun q => q.elim, fun q => h ⟨q.1, q.2.1⟩⟩
@[simp] theorem wp_aMakeK {cn : Nat} {F : List Dt → Mem → Rs Dt} : (aMakeK cn F fs fk s M).wp Q E = (fs s M).wp (fun xs M1 => (fk s M1).wp (fun zs M2 => (F (.cell false M2.o.length :: xs ++ zs) (M2.add false (.obj cn []))).wp (fun r M3 => isNone r = true ∧ Q (.cell false M2.o.length) M3) E) E) E := by
  simp only [aMakeK, wp_bind]
  congr 1; funext x M1; congr 1; funext z M2; congr 1; funext r M3
  by_cases h : isNone r = true <;> simp [h]
theorem wp_ixLD {x : Dt} {ds : List Dt} {j : Int} {e : Dt} (h : lsdOf M x = some ds) (h2 : atI ds j = some e) (q : Q e M) : (ixLD x (.p (.int j)) M).wp Q E := by
  simp only [ixLD, intOf, h, h2]
  exact q
@[simp] theorem wp_aSlL {po ph : SS → Mem → Rs (Option Int)} {QL : List PyData → Mem → Prop} : (aSlL f po ph s M).wp QL E = (f s M).wp (fun x M1 => (po s M1).wp (fun a M2 => (ph s M2).wp (fun b M3 => ∃ ds, lstOf M3 x = some ds ∧ QL (DL.cutD ds a b) M3) E) E) E := by
  simp only [aSlL, wp_bind]
  congr 1; funext x M1; congr 1; funext a M2; congr 1; funext b M3
  cases h : lstOf M3 x <;> simp
theorem wp_zip_nil {x y : Dt} {M1 : Mem} {i j : Nat} {fb : SS → Mem → Rs Fl} {QF : Fl → Mem → Prop} (q : QF (.nx s) M) : (zipL x y M1 i j fb [] s M).wp QF E := q
theorem wp_zip_cons {x y a b : Dt} {ds : List (Dt × Dt)} {M1 : Mem} {i j : Nat} {fb : SS → Mem → Rs Fl} {QF : Fl → Mem → Prop} (q : (fb ((s.set i (some a)).set j (some b)) M).wp (fun z M2 => match z with
    | .nx s2 => Intact (srcOf x) M1 M2 ∧ Intact (srcOf y) M1 M2 ∧ (zipL x y M1 i j fb ds s2 M2).wp QF E
    | _ => False) E) : (zipL x y M1 i j fb ((a, b) :: ds) s M).wp QF E := by
  simp only [zipL]
  cases z : fb ((s.set i (some a)).set j (some b)) M with
  | ok r M2 =>
    rw [z] at q
    cases r with
    | nx s2 =>
      obtain ⟨q1, q2, q3⟩ := q
      simp only [q1, q2, and_self, if_true]
      exact q3
    | _ => exact q.elim
  | ex c M2 =>
    rw [z] at q
    exact q
  | st =>
    rw [z] at q
    exact q
theorem wp_aForZ {i j : Nat} {fb : SS → Mem → Rs Fl} {QF : Fl → Mem → Prop} (h : (f s M).wp (fun x M1 => (g s M1).wp (fun y M2 => ∃ ds es, lsdOf M2 x = some ds ∧ lsdOf M2 y = some es ∧ ds.length = es.length ∧ (zipL x y M2 i j fb (ds.zip es) s M2).wp QF E) E) E) : (aForZ i j f g fb s M).wp QF E := by
  simp only [aForZ, wp_bind]
  refine wp_mono h fun x M1 h => wp_mono h fun y M2 ⟨ds, es, e1, e2, e3, h⟩ => ?_
  simp only [e1, e2, e3, if_true]
  exact h
theorem Wl7.congr {M' : Mem} (W : Wl7 ns start A B l d u k M) (e : M'.o = M.o) : Wl7 ns start A B l d u k M' := by
  refine ⟨W.L.congr e, ?_, W.kd, W.ku⟩
  have := W.st
  simp only [Mem.at_, e] at this ⊢
  exact this
/-- what the zip's body does -/
theorem wp_chk {x0 x1 x2 x3 x4 x5 x6 x7 x8 x9 x10 x13 : Option Dt} {QF : Fl → Mem → Prop} (W : Wl7 ns start A B l d u k M) (C : Cx45 ns start A B)
    (q : ∀ M' x13, M'.o = M.o → (∃ c1 c2, M' = (M.add true c1).add true c2) → QF (.nx [x0, x1, x2, x3, x4, x5, x6, x7, x8, x9, x10, some (.cell false l), some (.cell false k), x13]) M') :
    (aSeq (aSet 13 (aCall F_law_flat [] (aCons (aSl (aOp ixD (aVar 12) (aC (.int 1))) aNone (aSome (aOp ixD (aVar 12) (aC (.int 2))))) aNil))) (aIfS (aOr (aNot (aB (aCall F_law_equal [] (aCons (aProp 0 F_Live_historyC (aVar 11)) (aCons (aVar 13) aNil))))) (aNot (aB (aCall F_law_equal [] (aCons (aProp 0 F_Live_pathC (aVar 11)) (aCons (aCall F_law_run [] (aCons (aOp ixD (aVar 12) (aC (.int 0))) (aCons (aVar 13) aNil))) aNil)))))) (aRet (aC (.bool false))) aNext)
      [x0, x1, x2, x3, x4, x5, x6, x7, x8, x9, x10, some (.cell false l), some (.cell false k), x13] M).wp QF E := by
  have fl : A.flatten.length ≤ 1000 := by
    have := C.n1
    rw [List.flatten_append, List.length_append] at this
    omega
  have cur := C.cur
  have cl' := cur.len
  have nl := C.nl
  have hh : ((dnOf start A).map (·.1)).flatten = A.flatten := by rw [dnOf_fst A start]
  have cf := C.ok.left.flat
  obtain ⟨L, st⟩ := W
  generalize hF : A.flatten = F at *
  have gP : Gd 1 13000 (.list (dS (run start F))) := gd_S C.hs cur.sub (by omega)
  have gH : Gd 2 40000 (.list (dCs F)) := gd_Cs C.hs cf (by omega)
  try simp
  refine wp_ixL (seq_cell st) atI1 ?_
  try simp
  refine wp_ixL (seq_cell st) atI2 ?_
  refine ⟨_, rfl, ?_⟩
  rw [cutD_take, show List.take A.length (List.map (fun cs => PyData.list (dCs cs)) A ++ List.map (fun cs => PyData.list (dCs cs)) B) = dSt A by simp [dSt]]
  refine wp_flat (by rw [hF]; omega) ?_
  rw [hF]
  refine wp_aProp ?_
  try simp
  refine ⟨⟨_, obj_of L.ho⟩, ?_⟩
  refine wp_hist L (by rw [hh]; omega) ?_
  rw [hh]
  refine wp_equal (dat_cell at_add_new) rfl gH (by omega) (by omega) ?_
  try simp
  refine wp_aProp ?_
  have L1 := L.congr (M' := M.add true (.lst (dCs F))) rfl
  have st1 : (M.add true (.lst (dCs F))).at_ false k = some (stC start (A ++ B) A.length) := at_add_old st
  try simp
  refine ⟨⟨_, obj_of L1.ho⟩, ?_⟩
  refine wp_lpath L1 ?_
  refine wp_ixL (seq_cell (at_add_old st1)) atI0 ?_
  refine wp_run C.hs (by omega) C.sp cf ?_
  refine wp_equal (dat_cell at_add_new) rfl gP (by omega) (by omega) ?_
  try simp
  exact q _ _ rfl ⟨_, _, rfl⟩
end
end G

set_option Elab.async false
set_option linter.all false
set_option maxRecDepth 100000
/-! QC: two live paths (k47): the whole law. -/
namespace G
open PySem PySem.Spec PyProof.Rows L2 DL
def S47 (x0 : Dt) (ns start : List Str) (sh : Nat) (s : SS) : Prop := ∃ x7 x8 x9 x10 x11 x12 x13, s = [some x0, some (.cell true 0), some (.p (.list (dS ns))), some (.p (.list (dS start))), some (.cell true sh), some (.cell false 6), some (.cell false 9), x7, x8, x9, x10, x11, x12, x13]
structure W47 (ns start : List Str) (b : Nat) (M : Mem) : Prop where
  ex : ∃ A1 B1 u1 A2 B2 u2, Wl7 ns start A1 B1 0 1 u1 7 M ∧ Cx45 ns start A1 B1 ∧ (A1 ++ B1).flatten.length ≤ b ∧ (A1 ++ B1).length ≤ b ∧ Wl7 ns start A2 B2 3 4 u2 8 M ∧ Cx45 ns start A2 B2 ∧ (A2 ++ B2).flatten.length ≤ b ∧ (A2 ++ B2).length ≤ b ∧ (u1 = 2 ∨ 10 ≤ u1) ∧ (u2 = 5 ∨ 10 ≤ u2) ∧ u1 ≠ u2
  l6 : M.at_ false 6 = some (.lsd [.cell false 0, .cell false 3])
  l9 : M.at_ false 9 = some (.lsd [.cell false 7, .cell false 8])
theorem W47.len {ns start : List Str} {b : Nat} {M : Mem} (W : W47 ns start b M) : 10 ≤ M.o.length := at_size W.l9
theorem W47.congr {ns start : List Str} {b : Nat} {M M' : Mem} (W : W47 ns start b M) (e : M'.o = M.o) : W47 ns start b M' := by
  obtain ⟨⟨A1, B1, u1, A2, B2, u2, h1, h2, h3, h4, h5, h6, h7, h8, h9⟩, l6, l9⟩ := W
  refine ⟨⟨A1, B1, u1, A2, B2, u2, h1.congr e, h2, h3, h4, h5.congr e, h6, h7, h8, h9⟩, ?_, ?_⟩
  · simp only [Mem.at_, e] at l6 ⊢
    exact l6
  · simp only [Mem.at_, e] at l9 ⊢
    exact l9
theorem W47.mono {ns start : List Str} {b b' : Nat} {M : Mem} (W : W47 ns start b M) (h : b ≤ b') : W47 ns start b' M := by
  obtain ⟨⟨A1, B1, u1, A2, B2, u2, h1, h2, h3, h4, h5, h6, h7, h8, h9⟩, l6, l9⟩ := W
  exact ⟨⟨A1, B1, u1, A2, B2, u2, h1, h2, by omega, by omega, h5, h6, by omega, by omega, h9⟩, l6, l9⟩
theorem Wl7.keep {ns start : List Str} {A B : List (List Cm)} {l d u k : Nat} {M M' : Mem} (W : Wl7 ns start A B l d u k M) (h : ∀ j, j = l ∨ j = d ∨ j = u ∨ j = k → M'.o[j]? = M.o[j]?) : Wl7 ns start A B l d u k M' := by
  obtain ⟨⟨h1, h2, h3, h4⟩, st, a1, a2⟩ := W
  exact ⟨⟨(h l (by simp)).trans h1, (h d (by simp)).trans h2, (h u (by simp)).trans h3, h4⟩, (h k (by simp)).trans st, a1, a2⟩
theorem W47.deed1 {ns start : List Str} {b i : Nat} {M M' : Mem} {A1 B1 A2 B2 : List (List Cm)} {u1 u2 : Nat} (W1 : Wl7 ns start A1 B1 0 1 u1 7 M) (W2 : Wl7 ns start A2 B2 3 4 u2 8 M) (C2 : Cx45 ns start A2 B2) (b1 : (A2 ++ B2).flatten.length ≤ b) (b2 : (A2 ++ B2).length ≤ b) (g1 : u1 = 2 ∨ 10 ≤ u1) (g2 : u2 = 5 ∨ 10 ≤ u2) (ne : u1 ≠ u2)
    (l6 : M.at_ false 6 = some (.lsd [.cell false 0, .cell false 3])) (l9 : M.at_ false 9 = some (.lsd [.cell false 7, .cell false 8])) (D : D7 ns start 0 1 u1 7 i M b M') : W47 ns start (b + 6) M' := by
  have len : 10 ≤ M.o.length := at_size l9
  have lu : u2 < M.o.length := at_size W2.L.hu
  obtain ⟨⟨A, B, u', W, C, c1, c2, hu⟩, _, ol, off⟩ := D
  refine ⟨⟨A, B, u', A2, B2, u2, W, C, c1, c2, W2.keep ?_, C2, by omega, by omega, by omega, g2, by omega⟩, ?_, ?_⟩
  · rintro j (rfl | rfl | rfl | rfl) <;> exact off _ (by omega) (by omega) (by omega) (by omega) (by omega)
  · exact (off 6 (by omega) (by omega) (by omega) (by omega) (by omega)).trans l6
  · exact (off 9 (by omega) (by omega) (by omega) (by omega) (by omega)).trans l9
theorem W47.deed2 {ns start : List Str} {b i : Nat} {M M' : Mem} {A1 B1 A2 B2 : List (List Cm)} {u1 u2 : Nat} (W1 : Wl7 ns start A1 B1 0 1 u1 7 M) (C1 : Cx45 ns start A1 B1) (W2 : Wl7 ns start A2 B2 3 4 u2 8 M) (b1 : (A1 ++ B1).flatten.length ≤ b) (b2 : (A1 ++ B1).length ≤ b) (g1 : u1 = 2 ∨ 10 ≤ u1) (g2 : u2 = 5 ∨ 10 ≤ u2) (ne : u1 ≠ u2)
    (l6 : M.at_ false 6 = some (.lsd [.cell false 0, .cell false 3])) (l9 : M.at_ false 9 = some (.lsd [.cell false 7, .cell false 8])) (D : D7 ns start 3 4 u2 8 i M b M') : W47 ns start (b + 6) M' := by
  have len : 10 ≤ M.o.length := at_size l9
  have lu : u1 < M.o.length := at_size W1.L.hu
  obtain ⟨⟨A, B, u', W, C, c1, c2, hu⟩, _, ol, off⟩ := D
  refine ⟨⟨A1, B1, u1, A, B, u', W1.keep ?_, C1, by omega, by omega, W, C, c1, c2, g1, by omega, by omega⟩, ?_, ?_⟩
  · rintro j (rfl | rfl | rfl | rfl) <;> exact off _ (by omega) (by omega) (by omega) (by omega) (by omega)
  · exact (off 6 (by omega) (by omega) (by omega) (by omega) (by omega)).trans l6
  · exact (off 9 (by omega) (by omega) (by omega) (by omega) (by omega)).trans l9
theorem wp_two {ns start : List Str} {b i sh : Nat} {M : Mem} {E : XE} {Q : Dt → Mem → Prop} {cs0 : List Cm} {r : Int} (W : W47 ns start b M) (r0 : 0 ≤ r) (r1 : r < 2) (t : TA i M) (hsh : M.at_ true sh = some (.lst (dCs cs0))) (hc0 : ∀ c ∈ cs0, CmOk ns c) (hn0 : cs0.length ≤ 6) (his : i ≠ sh) (hb : b + 6 ≤ 1000)
    (q : ∀ M', W47 ns start (b + 6) M' → (∃ M2, TM i M M2 ∧ M'.m = M2.m) → Q (.p (.bool true)) M') :
    (ixLD (.cell false 6) (.p (.int r)) M).wp (fun x M1 => (ixLD (.cell false 9) (.p (.int r)) M1).wp (fun y M2 => (F_law_deed [.cell true i, x, y, .p (.list (dS ns)), .cell true sh] M2).wp Q E) E) E := by
  obtain ⟨⟨A1, B1, u1, A2, B2, u2, W1, C1, b1, b2, W2, C2, b3, b4, g1, g2, ne⟩, l6, l9⟩ := W
  have e6 : lsdOf M (.cell false 6) = some [.cell false 0, .cell false 3] := by simp [lsdOf, l6]
  have e9 : lsdOf M (.cell false 9) = some [.cell false 7, .cell false 8] := by simp [lsdOf, l9]
  have hr : r = 0 ∨ r = 1 := by omega
  rcases hr with rfl | rfl
  · refine wp_ixLD (e := .cell false 0) e6 (by simp [atI, ixN]) (wp_ixLD (e := .cell false 7) e9 (by simp [atI, ixN]) ?_)
    exact wp_deed7 t W1 C1 hsh hc0 hn0 his b1 b2 hb fun M' D => q M' (W47.deed1 W1 W2 C2 b3 b4 g1 g2 ne l6 l9 D) D.m
  · refine wp_ixLD (e := .cell false 3) e6 (by simp [atI, ixN]) (wp_ixLD (e := .cell false 8) e9 (by simp [atI, ixN]) ?_)
    exact wp_deed7 t W2 C2 hsh hc0 hn0 his b3 b4 hb fun M' D => q M' (W47.deed2 W1 C1 W2 b1 b2 g1 g2 ne l6 l9 D) D.m
theorem lsd_cell {M : Mem} {b : Bool} {j : Nat} {ds : List Dt} (h : M.at_ b j = some (.lsd ds)) : lsdOf M (.cell b j) = some ds := by simp [lsdOf, h]
abbrev dT7 (v : Int × Int) : PyData := .tuple [.int v.1, .int v.2]
theorem en_map7 : ∀ (ys : List Int), ∃ vs : List (Int × Int), enItems (ys.map PyData.int) = vs.map dT7 ∧ vs.length = ys.length := fun ys => by
  refine ⟨(List.range ys.length).zipWith (fun (i : Nat) (y : Int) => ((i : Int), y)) ys, ?_, by simp⟩
  unfold enItems
  rw [List.map_zipWith, List.length_map, List.zipWith_map_right]
theorem cut_map7 (zs : List Int) : ∃ ys : List Int, DL.cutD (zs.map PyData.int) (some 1) (some 25) = ys.map PyData.int ∧ ys.length ≤ 24 := by
  unfold DL.cutD
  rw [sIx_nat (by omega), sIx_nat (by omega)]
  refine ⟨(zs.drop _).take _, by rw [List.map_take, List.map_drop], ?_⟩
  simp only [List.length_take, List.length_map, List.length_drop]
  omega
theorem cut_last (cs : List Cm) : ∃ c2 : List Cm, DL.cutD (dCs cs) (some (-5)) none = dCs c2 ∧ c2.length ≤ 5 ∧ ∀ c ∈ c2, c ∈ cs := by
  unfold DL.cutD
  refine ⟨(cs.drop (HT.sIx (dCs cs).length 0 (some (-5)))).take ((dCs cs).length - HT.sIx (dCs cs).length 0 (some (-5))), ?_, ?_, fun c hc => List.mem_of_mem_drop (List.mem_of_mem_take hc)⟩
  · rw [sIx_none]
    simp only [dCs, List.map_take, List.map_drop]
  · simp only [List.length_take, List.length_drop, List.length_map]
    have : HT.sIx cs.length 0 (some (-5)) = cs.length - 5 := by
      simp [HT.sIx]
      omega
    rw [this]
    omega
def I47 (x0 : Dt) (ns start : List Str) (rest : List PyData) (s : SS) (M : Mem) : Prop := ∃ (vs : List (Int × Int)) (sh : Nat) (cs : List Cm), rest = vs.map dT7 ∧ S47 x0 ns start sh s ∧ W47 ns start (6 * (24 - vs.length)) M ∧ vs.length ≤ 24 ∧ M.at_ true sh = some (.lst (dCs cs)) ∧ (∀ c ∈ cs, CmOk ns c) ∧ cs.length ≤ 5
theorem pure_law (zs : List Int) (h : zs.length ≤ 63) : ∃ M1, F_law [.p (.list (zs.map PyData.int))] ⟨[], []⟩ = .ok (.p (.bool true)) M1 := by
  have w : (F_law [.p (.list (zs.map PyData.int))] ⟨[], []⟩).wp (fun r _ => r = .p (.bool true)) (fun _ _ => False) := by
    unfold F_law b_law
    try simp [startS, sizeLine]
    refine ⟨by omega, ?_⟩
    obtain ⟨v, hv⟩ : ∃ v, atI (zs.map PyData.int ++ [.int 0]) 0 = some (.int v) := by
      cases zs with
      | nil => exact ⟨0, atI0⟩
      | cons a r => exact ⟨a, atI0⟩
    refine wp_ixL rfl hv ?_
    refine wp_tape fun a s td => ?_
    have ta : TA 0 ((⟨[], []⟩ : Mem).add true (tp a s)) := ⟨a, s, at_add_new, td⟩
    try simp
    refine wp_names ta (by omega) (by omega) fun ns M1 hns hnl t1 => ?_
    have ta1 := t1.ta ta
    try simp
    refine wp_path ta1 hns (by omega) fun start M2 t2 hp => ?_
    have ta2 := t2.ta ta1
    have t02 := t1.trans t2
    try simp
    refine wp_draw ta2 (by omega) (by omega) fun n M3 n0 n1 t3 => ?_
    have ta3 := t3.ta ta2
    try simp
    refine wp_scriptC ta3 hns (by omega) n0 (by omega) fun cs M4 t4 hc hlen => ?_
    have t04 := (t02.trans t3).trans t4
    have e4 : M4.m.length = 1 := t04.len
    have e3 : M3.m.length = 1 := (t02.trans t3).len
    have o4 : M4.o = [] := t04.o
    try simp
    have e0 : (M4.add true (.lst (dCs cs))).o.length = 0 := by
      show M4.o.length = 0
      rw [o4]
      rfl
    rw [e0]
    have o5 : ((M4.add true (.lst (dCs cs))).add false (.obj 0 [])).at_ false 0 = some (.obj 0 []) := by
      have y := at_add_new (M := M4.add true (.lst (dCs cs))) (b := false) (c := .obj 0 [])
      rw [show (M4.add true (.lst (dCs cs))).size false = 0 from e0] at y
      exact y
    refine wp_init (ns := ns) (x := .p (.list (dS start))) (ps := start) o5 (by simp [Mem.add, o4]) rfl hns (by omega) hp fun M5 hm5 f5 L5 => ?_
    obtain ⟨ln5, _⟩ := f5
    have ln5' : M5.o.length = 3 := ln5
    refine ⟨rfl, ?_⟩
    rw [ln5']
    have o6 : (M5.add false (.obj 0 [])).at_ false 3 = some (.obj 0 []) := by
      have y := at_add_new (M := M5) (b := false) (c := .obj 0 [])
      rw [show M5.size false = 3 from ln5'] at y
      exact y
    refine wp_init (ns := ns) (x := .p (.list (dS start))) (ps := start) o6 (by simp [Mem.add, ln5']) rfl hns (by omega) hp fun M6 hm6 f6 L6 => ?_
    obtain ⟨ln6, fr6⟩ := f6
    have z6 : M6.size false = 6 := ln6
    have z7 : ∀ c, (M6.add false c).size false = 7 := fun c => by
      have := ln6
      simp [Mem.add, Mem.size] at this ⊢
      omega
    have z8 : ∀ c c', ((M6.add false c).add false c').size false = 8 := fun c c' => by
      have := ln6
      simp [Mem.add, Mem.size] at this ⊢
      omega
    have z9 : ∀ c c' c'', (((M6.add false c).add false c').add false c'').size false = 9 := fun c c' c'' => by
      have := ln6
      simp [Mem.add, Mem.size] at this ⊢
      omega
    simp only [z6, z7, z8, z9]
    have L56 : LiveAt M6 0 1 2 start [] [] := by
      obtain ⟨h1, h2, h3, h4⟩ := L5
      have fr : ∀ j, j < 3 → M6.o[j]? = M5.o[j]? := fun j hj => by
        rw [fr6 j hj]
        simp only [Mem.add]
        rw [List.getElem?_append_left (by omega)]
      exact ⟨(fr 0 (by omega)).trans h1, (fr 1 (by omega)).trans h2, (fr 2 (by omega)).trans h3, h4⟩
    have mm : M6.m = M4.m ++ [.lst (dCs cs)] := by
      rw [hm6]
      simp only [Mem.add]
      rw [hm5]
      simp only [Mem.add]
    have C0 : Cx45 ns start [] [] := ⟨hns, by omega, hp, ⟨fun s hs => by simp at hs, fun s hs => by simp at hs⟩, by simp, by simp⟩
    have st0 : Cell.lst [PyData.list (dS start), .list [], .int 0] = stC start ([] ++ []) (([] : List (List Cm)).length : Nat) := rfl
    rw [st0]
    have W : W47 ns start 0 ((((M6.add false (.lsd [.cell false 0, .cell false 3])).add false (stC start ([] ++ []) (([] : List (List Cm)).length : Nat))).add false (stC start ([] ++ []) (([] : List (List Cm)).length : Nat))).add false (.lsd [.cell false 7, .cell false 8])) := by
      have a6 := at_add_new (M := M6) (b := false) (c := .lsd [.cell false 0, .cell false 3])
      rw [z6] at a6
      have a7 := at_add_new (M := M6.add false (.lsd [.cell false 0, .cell false 3])) (b := false) (c := stC start ([] ++ []) (([] : List (List Cm)).length : Nat))
      rw [z7] at a7
      have a8 := at_add_new (M := (M6.add false (.lsd [.cell false 0, .cell false 3])).add false (stC start ([] ++ []) (([] : List (List Cm)).length : Nat))) (b := false) (c := stC start ([] ++ []) (([] : List (List Cm)).length : Nat))
      rw [z8] at a8
      have a9 := at_add_new (M := ((M6.add false (.lsd [.cell false 0, .cell false 3])).add false (stC start ([] ++ []) (([] : List (List Cm)).length : Nat))).add false (stC start ([] ++ []) (([] : List (List Cm)).length : Nat))) (b := false) (c := .lsd [.cell false 7, .cell false 8])
      rw [z9] at a9
      have up : ∀ {l d u : Nat}, LiveAt M6 l d u start [] [] → LiveAt ((((M6.add false (.lsd [.cell false 0, .cell false 3])).add false (stC start ([] ++ []) (([] : List (List Cm)).length : Nat))).add false (stC start ([] ++ []) (([] : List (List Cm)).length : Nat))).add false (.lsd [.cell false 7, .cell false 8])) l d u start [] [] := fun ⟨h1, h2, h3, h4⟩ =>
        ⟨at_add_old (at_add_old (at_add_old (at_add_old h1))), at_add_old (at_add_old (at_add_old (at_add_old h2))), at_add_old (at_add_old (at_add_old (at_add_old h3))), h4⟩
      exact ⟨⟨[], [], 2, [], [], 5, ⟨up L56, at_add_old (at_add_old a7), by omega, by omega⟩, C0, by simp, by simp, ⟨up L6, at_add_old a8, by omega, by omega⟩, C0, by simp, by simp, .inl rfl, .inl rfl, by omega⟩, at_add_old (at_add_old (at_add_old a6)), a9⟩
    have m10 : ((((M6.add false (.lsd [.cell false 0, .cell false 3])).add false (stC start ([] ++ []) (([] : List (List Cm)).length : Nat))).add false (stC start ([] ++ []) (([] : List (List Cm)).length : Nat))).add false (.lsd [.cell false 7, .cell false 8])).m = M4.m ++ [.lst (dCs cs)] := mm
    generalize (((M6.add false (.lsd [.cell false 0, .cell false 3])).add false (stC start ([] ++ []) (([] : List (List Cm)).length : Nat))).add false (stC start ([] ++ []) (([] : List (List Cm)).length : Nat))).add false (.lsd [.cell false 7, .cell false 8]) = M10 at W m10
    refine ⟨rfl, ⟨rfl, rfl⟩, ⟨rfl, rfl⟩, ?_⟩
    refine wp_aEnum ?_
    try simp
    obtain ⟨ys, ey, ly⟩ := cut_map7 zs
    obtain ⟨vs, ev, lv⟩ := en_map7 ys
    refine ⟨_, rfl, ?_⟩
    rw [ey, ev]
    have sh10 : M10.at_ true M3.m.length = some (.lst (dCs cs)) := by
      simp only [Mem.at_, m10]
      rw [e3]
      simp [e4]
    refine wp_forL (fun rest s M => I47 (.p (.list (zs.map PyData.int))) ns start rest s M) ?_ ?_ _ _ _ ⟨vs, M3.m.length, cs, rfl, ⟨none, none, none, none, none, none, none, rfl⟩, ?_, by omega, sh10, hc, by omega⟩
    · rintro d ds s M ⟨vs, sh, cs, e, ⟨x7, x8, x9, x10, x11, x12, x13, rfl⟩, W, lv, hsh, hcs, hn⟩
      cases vs with
      | nil => simp at e
      | cons v vs =>
        simp at e lv
        obtain ⟨rfl, rfl⟩ := e
        refine ⟨_, rfl, ?_⟩
        try simp
        refine wp_tape fun a s td => ?_
        have tb : TA M.m.length (M.add true (tp a s)) := ⟨a, s, at_add_new, td⟩
        have shl : sh < M.m.length := at_size hsh
        try simp
        refine wp_draw tb (by omega) (by omega) fun r Ma r0 r1 ta' => ?_
        have tb' := ta'.ta tb
        have oa : Ma.o = M.o := ta'.o
        have Wa := W.congr oa
        have sha : Ma.at_ true sh = some (.lst (dCs cs)) := by
          rw [ta'.at_ fun z => by omega]
          exact at_add_old hsh
        try simp
        refine wp_two (b := 6 * (24 - (vs.length + 1))) Wa r0 r1 tb' sha hcs (by omega) (by omega) (by omega) fun Mb Wb hmb => ?_
        obtain ⟨Mc, tc, emc⟩ := hmb
        have tbc := tc.ta tb'
        have tbb : TA M.m.length Mb := by
          obtain ⟨a0, s0, g1, g2⟩ := tbc
          refine ⟨a0, s0, ?_, g2⟩
          rw [← g1]
          simp only [Mem.at_, emc]
        have shb : Mb.at_ true sh = some (.lst (dCs cs)) := by
          rw [← sha, ← tc.at_ (b := true) (j := sh) fun z => by omega]
          simp only [Mem.at_, emc]
        try simp
        refine ⟨by rw [lst_cell shb]; rfl, ?_⟩
        refine wp_script tbb (by
          obtain ⟨⟨_, _, _, _, _, _, _, C, _⟩, _, _⟩ := W
          exact C.hs) (by omega) (by omega) (by omega) fun cs1 Md td' hc1 hlen1 => ?_
        obtain ⟨c, rfl⟩ : ∃ c, cs1 = [c] := by
          match cs1, hlen1 with
          | [c], _ => exact ⟨c, rfl⟩
        refine wp_ixL rfl atI0 ?_
        have shd : Md.at_ true sh = some (.lst (dCs cs)) := by
          rw [td'.at_ fun z => by omega]
          exact shb
        refine wp_append shd (by simp [sizeLine]; omega) ?_
        refine ⟨_, lst_cell (Mem.at_set_self shd), ?_⟩
        rw [show dCs cs ++ [dC c] = dCs (cs ++ [c]) by simp]
        obtain ⟨c2, ec2, lc2, mc2⟩ := cut_last (cs ++ [c])
        rw [ec2]
        have ok2 : ∀ x ∈ c2, CmOk ns x := fun x hx => by
          rcases List.mem_append.mp (mc2 x hx) with z | z
          · exact hcs x z
          · simp at z
            rw [z]
            exact hc1 c (by simp)
        have We := Wb.congr (M' := (Md.set true sh (.lst (dCs (cs ++ [c])))).add true (.lst (dCs c2))) td'.o
        have she : ((Md.set true sh (.lst (dCs (cs ++ [c])))).add true (.lst (dCs c2))).at_ true ((Md.set true sh (.lst (dCs (cs ++ [c])))).size true) = some (.lst (dCs c2)) := at_add_new
        generalize hsz : (Md.set true sh (.lst (dCs (cs ++ [c])))).size true = sh2 at she
        generalize (Md.set true sh (.lst (dCs (cs ++ [c])))).add true (.lst (dCs c2)) = Me at We she
        refine wp_aForZ ?_
        try simp
        have l6 := We.l6
        have l9 := We.l9
        refine ⟨[.cell false 0, .cell false 3], lsd_cell l6, [.cell false 7, .cell false 8], lsd_cell l9, rfl, ?_⟩
        try simp
        obtain ⟨⟨A1, B1, u1, A2, B2, u2, W1, C1, b1, b2, W2, C2, b3, b4, g1, g2, ne⟩, _, _⟩ := id We
        refine wp_zip_cons ?_
        refine wp_chk W1 C1 fun Mf x13 of hf => ?_
        have so : ∀ {Mx My : Mem} (j : Nat), My.o = Mx.o → Intact (srcOf (.cell false j)) Mx My := fun {Mx My} j e b i q => by
          cases q
          simp only [Mem.at_, e]
        have lw := lv
        refine ⟨so 6 of, so 9 of, ?_⟩
        refine wp_zip_cons ?_
        refine wp_chk (W2.congr of) C2 fun Mg y13 og hg => ?_
        refine ⟨so 6 (og.trans of), so 9 (og.trans of), ?_⟩
        refine wp_zip_nil ?_
        have sg : Mg.at_ true sh2 = some (.lst (dCs c2)) := by
          obtain ⟨k1, k2, rfl⟩ := hf
          obtain ⟨k3, k4, rfl⟩ := hg
          exact at_add_old (at_add_old (at_add_old (at_add_old she)))
        exact ⟨intact_none, vs, sh2, c2, rfl, ⟨_, _, _, _, _, _, _, rfl⟩, (We.congr (og.trans of)).mono (by omega), by omega, sg, ok2, lc2⟩
    · rintro s M ⟨vs, sh, cs, e, ⟨x7, x8, x9, x10, x11, x12, x13, rfl⟩, W, lv, hsh, hcs, hn⟩
      try simp
    · exact W.mono (by omega)
  cases z : F_law [.p (.list (zs.map PyData.int))] ⟨[], []⟩ with
  | ok r M1 =>
    rw [z] at w
    have e : r = .p (.bool true) := w
    exact ⟨M1, by rw [e]⟩
  | ex c M1 =>
    rw [z] at w
    exact w.elim
  | st =>
    rw [z] at w
    exact w.elim
end G

set_option maxRecDepth 100000 in
set_option maxHeartbeats 0 in
theorem PySem.Challenge.cw_endplaces_k47_two_live_paths_holds : PySem.Challenge.rw_endplaces_k47_two_live_paths.Holds := by
  w_on; o_law
  refine HandSHeadRun.head_any (r := G.rr) (q := PySem.W.view G.rr.prog [34]) (H := G.hk) (ob := G.ob) (M := 6000) (loose := G.loose) (d := HandSHeadRun.topDef G.rr.prog 34) (kwd := []) G.ob_eq
    (by kernel_rfl) (fun s => by kernel_rfl) G.topRun (by kernel_rfl) (by kernel_rfl) (by kernel_rfl) (by rfl) (by first | assumption | decide +kernel) (by decide +kernel) ⟨rfl, rfl, rfl, rfl, rfl, by decide +kernel⟩ ?hw ?hc
  case hw => w_witness2
  case hc =>
    refine DL.walk_overG (l := PySem.Challenge.rw_endplaces_k47_two_live_paths) (n := 63) (k := 7) (x := "_law_script_here") (cA := G.cAt) (FL := G.F_law) rfl (by decide) (by kernel_rfl) ⟨rfl, by decide, by decide⟩ G.pure_law ?F
    intro w mg fa h Y G1 hmg0
    obtain ⟨K, KX, c⟩ := Y
    have hmg : mg ("law" : PySem.Str) = some (.ref fa) := by
      have e : (HandSHeadRun.topDef G.rr.prog 34).name = ("law" : PySem.Str) := by kernel_rfl
      rw [← e]
      exact hmg0
    obtain ⟨fd, noL, hb, hF⟩ := G.facts (w := w) KX G1 hmg c
    exact ⟨K, fd, KX, noL, hb, hF⟩
#print axioms PySem.Challenge.cw_endplaces_k47_two_live_paths_holds

