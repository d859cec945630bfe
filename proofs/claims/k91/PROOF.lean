import PyProof.Rows.All
import Wide.All
import OpenK.AllK
import Wide.FinOn
import HandS.ForMost
import HandS.ForExc
import HandS.CallSlots
import HandS.Deep
import HandS.TupAny
import HandS.TupMul
import HandS.ExcIs
import HandS.More
import HandS.SetFor
import HandS.ExcValue
import HandS.Conv
import PySem.Challenge.RW_windowback_k91_whole_two_at_once
set_option Elab.async false
set_option linter.all false
set_option maxRecDepth 100000
set_option maxHeartbeats 4000000
/-! Data in place of heaps: what a piece of code is worth, as a plain function of slots and of a store of cells. -/
namespace WB
open PySem PySem.Spec PyProof.Rows L2
abbrev St := L2.St

/-- a value: nothing known, data that never changes, a cell of the store, an exception of a class, the script -/
inductive DV where
  | un
  | dat (d : PyData)
  | ptr (k : Nat)
  | ex (c : Nat)
  | scr (ns : List Int)
/-- a cell: a list that may change, one that no more does, an object of a kind -/
inductive Cell where
  | mu (xs : List PyData)
  | fz (xs : List PyData)
  | ob (k : Nat) (d : PyData)

mutual
/-- data laid out in F, its lists tracked -/
inductive Dt (K : PySem.W.Frag) (F : Hp) : V → PyData → Prop
  | non : Dt K F .non .none
  | bl (b : Bool) : Dt K F (.bl b) (.bool b)
  | int (i : Int) : Dt K F (.int i) (.int i)
  | str (x : Str) : Dt K F (.str x) (.str x)
  | lst {a : Addr} {xs : List V} {ds : List PyData} : F a = some (.lst xs) → DtAll K F xs ds → Dt K F (.ref a) (.list ds)
  | tup {a : Addr} {xs : List V} {ds : List PyData} : SqT K F a xs → DtAll K F xs ds → Dt K F (.ref a) (.tuple ds)
inductive DtAll (K : PySem.W.Frag) (F : Hp) : List V → List PyData → Prop
  | nil : DtAll K F [] []
  | cons {v : V} {vs : List V} {d : PyData} {ds : List PyData} : Dt K F v d → DtAll K F vs ds → DtAll K F (v :: vs) (d :: ds)
end

theorem sqT_mono {K : PySem.W.Frag} {F G : Hp} {a : Addr} {xs : List V} (s : Same F G) (h : SqT K F a xs) : SqT K G a xs := by
  rcases h with (h | ⟨o, h⟩) | h
  · exact .inl (.inl (s _ _ h))
  · exact .inl (.inr ⟨o, s _ _ h⟩)
  · exact .inr h
mutual
theorem Dt.mono {K : PySem.W.Frag} {F G : Hp} (s : Same F G) : ∀ {d : PyData} {v : V}, Dt K F v d → Dt K G v d
  | .none, _, .non => .non
  | .bool _, _, .bl b => .bl b
  | .int _, _, .int i => .int i
  | .str _, _, .str x => .str x
  | .list _, _, .lst h r => .lst (s _ _ h) (DtAll.mono s r)
  | .tuple _, _, .tup h r => .tup (sqT_mono s h) (DtAll.mono s r)
theorem DtAll.mono {K : PySem.W.Frag} {F G : Hp} (s : Same F G) : ∀ {ds : List PyData} {vs : List V}, DtAll K F vs ds → DtAll K G vs ds
  | [], _, .nil => .nil
  | _ :: _, _, .cons h r => .cons (Dt.mono s h) (DtAll.mono s r)
end
mutual
theorem Dt.dp {K : PySem.W.Frag} {F : Hp} : ∀ {d : PyData} {v : V}, Dt K F v d → Dp K F v d
  | .none, _, .non => .non
  | .bool _, _, .bl b => .bl b
  | .int _, _, .int i => .int i
  | .str _, _, .str x => .str x
  | .list _, _, .lst h r => .lst (SqL.of h) (DtAll.dp r)
  | .tuple _, _, .tup h r => .tup h (DtAll.dp r)
theorem DtAll.dp {K : PySem.W.Frag} {F : Hp} : ∀ {ds : List PyData} {vs : List V}, DtAll K F vs ds → DpAll K F vs ds
  | [], _, .nil => .nil
  | _ :: _, _, .cons h r => .cons (Dt.dp h) (DtAll.dp r)
end
section
variable {K : PySem.W.Frag} {F : Hp}
theorem DtAll.length : ∀ {vs : List V} {ds : List PyData}, DtAll K F vs ds → vs.length = ds.length
  | _, _, .nil => rfl
  | _, _, .cons _ r => by rw [List.length_cons, List.length_cons, DtAll.length r]
theorem DtAll.get : ∀ {vs : List V} {ds : List PyData} {i : Nat} {d : PyData}, DtAll K F vs ds → ds[i]? = some d → ∃ v, vs[i]? = some v ∧ Dt K F v d
  | _, _, i, _, .nil, e => by simp at e
  | _, _, 0, _, .cons h _, e => by simp at e; subst e; exact ⟨_, rfl, h⟩
  | _, _, i + 1, d, .cons _ r, e => by
    obtain ⟨v, q, h⟩ := DtAll.get (i := i) (d := d) r (by simpa using e)
    exact ⟨v, by simpa using q, h⟩
theorem DtAll.get' : ∀ {vs : List V} {ds : List PyData} {i : Nat} {v : V}, DtAll K F vs ds → vs[i]? = some v → ∃ d, ds[i]? = some d ∧ Dt K F v d
  | _, _, i, _, .nil, e => by simp at e
  | _, _, 0, _, .cons h _, e => by simp at e; subst e; exact ⟨_, rfl, h⟩
  | _, _, i + 1, d, .cons _ r, e => by
    obtain ⟨v, q, h⟩ := DtAll.get' (i := i) (v := d) r (by simpa using e)
    exact ⟨v, by simpa using q, h⟩
theorem DtAll.append : ∀ {vs ws : List V} {ds es : List PyData}, DtAll K F vs ds → DtAll K F ws es → DtAll K F (vs ++ ws) (ds ++ es)
  | _, _, _, _, .nil, s => s
  | _, _, _, _, .cons h r, s => .cons h (DtAll.append r s)
theorem DtAll.take : ∀ {vs : List V} {ds : List PyData} (n : Nat), DtAll K F vs ds → DtAll K F (vs.take n) (ds.take n)
  | _, _, 0, _ => .nil
  | _, _, _ + 1, .nil => .nil
  | _, _, n + 1, .cons h r => .cons h (DtAll.take n r)
theorem DtAll.drop : ∀ {vs : List V} {ds : List PyData} (n : Nat), DtAll K F vs ds → DtAll K F (vs.drop n) (ds.drop n)
  | _, _, 0, h => h
  | _, _, _ + 1, .nil => .nil
  | _, _, n + 1, .cons _ r => DtAll.drop n r
theorem DtAll.set {v : V} {d : PyData} (h : Dt K F v d) : ∀ {vs : List V} {ds : List PyData} (n : Nat), DtAll K F vs ds → DtAll K F (vs.set n v) (ds.set n d)
  | _, _, _, .nil => .nil
  | _, _, 0, .cons _ r => .cons h r
  | _, _, n + 1, .cons q r => .cons q (DtAll.set h n r)
theorem DtAll.eraseIdx : ∀ {vs : List V} {ds : List PyData} (n : Nat), DtAll K F vs ds → DtAll K F (vs.eraseIdx n) (ds.eraseIdx n)
  | _, _, _, .nil => .nil
  | _, _, 0, .cons _ r => r
  | _, _, n + 1, .cons q r => .cons q (DtAll.eraseIdx n r)
theorem DtAll.rep {vs : List V} {ds : List PyData} (h : DtAll K F vs ds) : ∀ n : Nat, DtAll K F (List.replicate n vs).flatten (List.replicate n ds).flatten
  | 0 => .nil
  | n + 1 => DtAll.append h (DtAll.rep h n)
theorem DtAll.ints : ∀ ns : List Int, DtAll K F (ns.map V.int) (ns.map PyData.int)
  | [] => .nil
  | n :: r => .cons (.int n) (DtAll.ints r)
theorem DtAll.of_ints : ∀ {ns : List Int} {vs : List V}, DtAll K F vs (ns.map PyData.int) → vs = ns.map V.int
  | [], _, .nil => rfl
  | n :: r, _, .cons h t => by cases h; rw [DtAll.of_ints t]; rfl
end

/-- the laws' fixed part: what is written, the classes of errors by number, what an object of a kind is -/
structure Rx where
  K : PySem.W.Frag
  ca : Nat → Addr
  om : Nat → PyData → Hp → Hp → Addr → List Addr → Prop
  stay : ∀ {k : Nat} {d : PyData} {F H F' H' : Hp} {a : Addr} {fp : List Addr}, om k d F H a fp → Same F F' → (∀ b ∈ fp, ∀ o, H b = some o → H' b = some o) → om k d F' H' a fp

/-- a caught exception of the class at C, kept as a value -/
def ExW (C a : Addr) : HO := .ext fun h => ∃ (oe : Obj) (vs : Array Value), h.get? a = some oe ∧ oe.cls = .ref C ∧ oe.dict = none ∧ oe.data = .fields vs

/-- a world: what never changes, and where the cells stand -/
structure Wd where
  F : Hp
  as : List Addr
def Wd.le (w w' : Wd) : Prop := Same w.F w'.F ∧ w.as <+: w'.as
theorem Wd.le.refl (w : Wd) : w.le w := ⟨Same.refl _, List.prefix_refl _⟩
theorem Wd.le.trans {u v w : Wd} (a : u.le v) (b : v.le w) : u.le w := ⟨a.1.trans b.1, List.IsPrefix.trans a.2 b.2⟩

def DvR (R : Rx) (w : Wd) (x : V) : DV → Prop
  | .un => False
  | .dat d => Dt R.K w.F x d
  | .ptr k => ∃ a, w.as[k]? = some a ∧ x = .ref a
  | .ex c => ∃ a, x = .ref a ∧ w.F a = some (ExW (R.ca c) a)
  | .scr ns => ∃ a, x = .ref a ∧ SqL R.K w.F a (ns.map V.int)
theorem prefix_get {α : Type} {l m : List α} {k : Nat} {a : α} (p : l <+: m) (h : l[k]? = some a) : m[k]? = some a := by
  obtain ⟨t, rfl⟩ := p
  rw [List.getElem?_append_left (List.getElem?_eq_some_iff.mp h).1]
  exact h
theorem DvR.mono {R : Rx} {w w' : Wd} {x : V} : ∀ {v : DV}, DvR R w x v → w.le w' → DvR R w' x v
  | .dat _, h, l => Dt.mono l.1 h
  | .ptr _, ⟨a, e, q⟩, l => ⟨a, prefix_get l.2 e, q⟩
  | .ex _, ⟨a, e, q⟩, l => ⟨a, e, l.1 _ _ q⟩
  | .scr _, ⟨a, e, q⟩, l => ⟨a, e, l.1.seq q⟩

inductive SlR (R : Rx) (w : Wd) : St → List DV → Prop
  | nil : SlR R w [] []
  | un {v : Option V} {σ : St} {δ : List DV} : SlR R w σ δ → SlR R w (v :: σ) (.un :: δ)
  | cons {x : V} {d : DV} {σ : St} {δ : List DV} : DvR R w x d → SlR R w σ δ → SlR R w (some x :: σ) (d :: δ)
theorem SlR.mono {R : Rx} {w w' : Wd} (l : w.le w') : ∀ {σ : St} {δ : List DV}, SlR R w σ δ → SlR R w' σ δ
  | _, _, .nil => .nil
  | _, _, .un r => .un (SlR.mono l r)
  | _, _, .cons h r => .cons (h.mono l) (SlR.mono l r)
theorem SlR.length {R : Rx} {w : Wd} : ∀ {σ : St} {δ : List DV}, SlR R w σ δ → σ.length = δ.length
  | _, _, .nil => rfl
  | _, _, .un r => by rw [List.length_cons, List.length_cons, SlR.length r]
  | _, _, .cons _ r => by rw [List.length_cons, List.length_cons, SlR.length r]
theorem SlR.get {R : Rx} {w : Wd} : ∀ {σ : St} {δ : List DV} {i : Nat} {d : DV}, SlR R w σ δ → δ[i]? = some d → (d = .un ∨ ∃ x, σ[i]? = some (some x) ∧ DvR R w x d)
  | _, _, i, _, .nil, e => by simp at e
  | _, _, 0, _, .un _, e => by simp at e; exact .inl e.symm
  | _, _, 0, _, .cons h _, e => by simp at e; subst e; exact .inr ⟨_, rfl, h⟩
  | _, _, i + 1, d, .un r, e => by
    rcases SlR.get (i := i) (d := d) r (by simpa using e) with q | ⟨x, q, h⟩
    · exact .inl q
    · exact .inr ⟨x, by simpa using q, h⟩
  | _, _, i + 1, d, .cons _ r, e => by
    rcases SlR.get (i := i) (d := d) r (by simpa using e) with q | ⟨x, q, h⟩
    · exact .inl q
    · exact .inr ⟨x, by simpa using q, h⟩
theorem SlR.set {R : Rx} {w : Wd} {x : V} {d : DV} (h : DvR R w x d) : ∀ {σ : St} {δ : List DV} (i : Nat), SlR R w σ δ → SlR R w (σ.set i (some x)) (δ.set i d)
  | _, _, _, .nil => .nil
  | _, _, 0, .un r => .cons h r
  | _, _, 0, .cons _ r => .cons h r
  | _, _, i + 1, .un r => .un (SlR.set h i r)
  | _, _, i + 1, .cons q r => .cons q (SlR.set h i r)
theorem SlR.setUn {R : Rx} {w : Wd} {v : Option V} : ∀ {σ : St} {δ : List DV} (i : Nat), SlR R w σ δ → SlR R w (σ.set i v) (δ.set i .un)
  | _, _, _, .nil => .nil
  | _, _, 0, .un r => .un r
  | _, _, 0, .cons _ r => .un r
  | _, _, i + 1, .un r => .un (SlR.setUn i r)
  | _, _, i + 1, .cons q r => .cons q (SlR.setUn i r)

inductive CellOk (R : Rx) (F H : Hp) (a : Addr) : Cell → List Addr → Prop
  | mu {vs : List V} {xs : List PyData} : H a = some (.lst vs) → DtAll R.K F vs xs → CellOk R F H a (.mu xs) [a]
  | fz {vs : List V} {xs : List PyData} : F a = some (.lst vs) → DtAll R.K F vs xs → CellOk R F H a (.fz xs) []
  | ob {k : Nat} {d : PyData} {fp : List Addr} : R.om k d F H a fp → CellOk R F H a (.ob k d) fp
inductive Cells (R : Rx) (F H : Hp) : List Addr → List Cell → List (List Addr) → Prop
  | nil : Cells R F H [] [] []
  | cons {a : Addr} {c : Cell} {fp : List Addr} {as : List Addr} {cs : List Cell} {fps : List (List Addr)} : CellOk R F H a c fp → Cells R F H as cs fps → Cells R F H (a :: as) (c :: cs) (fp :: fps)
/-- the store stands in H -/
structure Sto (R : Rx) (w : Wd) (H : Hp) (st : List Cell) : Prop where
  sub : Same w.F H
  ex : ∃ fps : List (List Addr), Cells R w.F H w.as st fps ∧ fps.flatten.Nodup ∧ ∀ b ∈ fps.flatten, w.F b = none ∧ ∃ o, H b = some o

section
variable {R : Rx} {F H F' H' : Hp} {a : Addr}
theorem CellOk.keep {c : Cell} {fp : List Addr} (h : CellOk R F H a c fp) (s : Same F F') (k : ∀ b ∈ fp, ∀ o, H b = some o → H' b = some o) : CellOk R F' H' a c fp := by
  cases h with
  | mu h r => exact .mu (k _ List.mem_cons_self _ h) (DtAll.mono s r)
  | fz h r => exact .fz (s _ _ h) (DtAll.mono s r)
  | ob h => exact .ob (R.stay h s k)
theorem Cells.keep (s : Same F F') : ∀ {as : List Addr} {cs : List Cell} {fps : List (List Addr)}, Cells R F H as cs fps → (∀ b ∈ fps.flatten, ∀ o, H b = some o → H' b = some o) → Cells R F' H' as cs fps
  | _, _, _, .nil, _ => .nil
  | _, _, _, .cons h r, k => .cons (h.keep s fun b hb => k b (by simp [hb])) (Cells.keep s r fun b hb => k b (by
      rw [List.flatten_cons]; exact List.mem_append_right _ hb))
theorem Cells.length : ∀ {as : List Addr} {cs : List Cell} {fps : List (List Addr)}, Cells R F H as cs fps → as.length = cs.length ∧ fps.length = cs.length
  | _, _, _, .nil => ⟨rfl, rfl⟩
  | _, _, _, .cons _ r => by
    obtain ⟨h1, h2⟩ := Cells.length r
    exact ⟨by rw [List.length_cons, List.length_cons, h1], by rw [List.length_cons, List.length_cons, h2]⟩
theorem Cells.append : ∀ {as as' : List Addr} {cs cs' : List Cell} {fps fps' : List (List Addr)}, Cells R F H as cs fps → Cells R F H as' cs' fps' → Cells R F H (as ++ as') (cs ++ cs') (fps ++ fps')
  | _, _, _, _, _, _, .nil, s => s
  | _, _, _, _, _, _, .cons h r, s => .cons h (Cells.append r s)
theorem Cells.take : ∀ {as : List Addr} {cs : List Cell} {fps : List (List Addr)} (n : Nat), Cells R F H as cs fps → Cells R F H (as.take n) (cs.take n) (fps.take n)
  | _, _, _, 0, _ => .nil
  | _, _, _, _ + 1, .nil => .nil
  | _, _, _, n + 1, .cons h r => .cons h (Cells.take n r)
theorem Cells.get : ∀ {as : List Addr} {cs : List Cell} {fps : List (List Addr)} {i : Nat} {a : Addr} {c : Cell}, Cells R F H as cs fps → as[i]? = some a → cs[i]? = some c → ∃ fp, fps[i]? = some fp ∧ CellOk R F H a c fp
  | _, _, _, i, _, _, .nil, e, _ => by simp at e
  | _, _, _, 0, _, _, .cons h _, e, q => by simp at e q; subst e; subst q; exact ⟨_, rfl, h⟩
  | _, _, _, i + 1, a, c, .cons _ r, e, q => by
    obtain ⟨fp, e1, h⟩ := Cells.get (i := i) (a := a) (c := c) r (by simpa using e) (by simpa using q)
    exact ⟨fp, by simpa using e1, h⟩
end
theorem mem_flat {α : Type} {l : List (List α)} {i : Nat} {x : List α} {b : α} (h : l[i]? = some x) (hb : b ∈ x) : b ∈ l.flatten := List.mem_flatten.mpr ⟨x, List.mem_of_getElem? h, hb⟩

section
variable {R : Rx} {w : Wd} {H : Hp} {st : List Cell}
/-- a new thing that never changes -/
theorem Sto.laid (S : Sto R w H st) {p : Addr} {o : HO} (hp : H p = none) : Sto R ⟨upd w.F p o, w.as⟩ (upd H p o) st ∧ w.le ⟨upd w.F p o, w.as⟩ := by
  obtain ⟨fps, C, nd, ok⟩ := S.ex
  have np : ∀ b ∈ fps.flatten, b ≠ p := fun b hb e => by
    obtain ⟨_, o, q⟩ := ok b hb
    rw [e, hp] at q; cases q
  have sF : Same w.F (upd w.F p o) := fun b u e => by rw [upd_ne (ne_of_none (S.sub b u e) hp)]; exact e
  refine ⟨⟨fun b u e => ?_, fps, ?_, nd, fun b hb => ?_⟩, sF, List.prefix_refl _⟩
  · by_cases hb : b = p
    · subst hb
      have e' : upd w.F b o b = some u := e
      rw [upd_same] at e' ⊢; exact e'
    · have e' : upd w.F p o b = some u := e
      rw [upd_ne hb] at e' ⊢; exact S.sub b u e'
  · exact Cells.keep sF C fun b hb u e => by rw [upd_ne (np b hb)]; exact e
  · obtain ⟨h1, u, h2⟩ := ok b hb
    exact ⟨by show upd w.F p o b = none; rw [upd_ne (np b hb)]; exact h1, u, by rw [upd_ne (np b hb)]; exact h2⟩
/-- a new list of its own -/
theorem Sto.cell (S : Sto R w H st) {p : Addr} {vs : List V} {xs : List PyData} (hp : H p = none) (h : DtAll R.K w.F vs xs) :
    Sto R ⟨w.F, w.as ++ [p]⟩ (upd H p (.lst vs)) (st ++ [.mu xs]) ∧ w.le ⟨w.F, w.as ++ [p]⟩ := by
  obtain ⟨fps, C, nd, ok⟩ := S.ex
  have np : ∀ b ∈ fps.flatten, b ≠ p := fun b hb e => by
    obtain ⟨_, o, q⟩ := ok b hb
    rw [e, hp] at q; cases q
  have Fp : w.F p = none := by
    cases q : w.F p with
    | none => rfl
    | some o => rw [S.sub _ _ q] at hp; cases hp
  refine ⟨⟨fun b u e => ?_, fps ++ [[p]], Cells.append (Cells.keep (Same.refl _) C fun b hb u e => by rw [upd_ne (np b hb)]; exact e) (.cons (.mu upd_same h) .nil), ?_, fun b hb => ?_⟩, Same.refl _, List.prefix_append _ _⟩
  · rw [upd_ne (ne_of_none (S.sub b u e) hp)]; exact S.sub b u e
  · rw [List.flatten_append]
    refine List.nodup_append.mpr ⟨nd, by simp, fun b hb c hc e => ?_⟩
    have : c = p := by simpa using hc
    exact np b hb (e.trans this)
  · rw [List.flatten_append] at hb
    rcases List.mem_append.mp hb with hb | hb
    · obtain ⟨h1, u, h2⟩ := ok b hb
      exact ⟨h1, u, by rw [upd_ne (np b hb)]; exact h2⟩
    · have e : b = p := by simpa using hb
      subst e
      exact ⟨Fp, _, upd_same⟩
theorem cells_set {F H H' : Hp} : ∀ {as : List Addr} {cs : List Cell} {fps : List (List Addr)} {i : Nat} {a : Addr} {c : Cell} {fp : List Addr}, Cells R F H as cs fps → as[i]? = some a → fps[i]? = some fp → CellOk R F H' a c fp →
    fps.flatten.Nodup → (∀ b ∈ fps.flatten, b ∉ fp → ∀ o, H b = some o → H' b = some o) → Cells R F H' as (cs.set i c) fps
  | _, _, _, i, _, _, _, .nil, e, _, _, _, _ => by simp at e
  | _, _, _, 0, a, c, fp, .cons (fps := fps) h r, e, q, ok, nd, k => by
    simp at e q; subst e; subst q
    rw [List.flatten_cons] at nd k
    refine .cons ok (Cells.keep (Same.refl _) r fun b hb o z => k b (List.mem_append_right _ hb) (fun hf => ?_) o z)
    exact (List.nodup_append.mp nd).2.2 b hf b hb rfl
  | _, _, _, i + 1, a, c, fp, .cons (fp := fp0) h r, e, q, ok, nd, k => by
    rw [List.flatten_cons] at nd k
    have q' := (by simpa using q : _ = some fp)
    refine .cons (h.keep (Same.refl _) fun b hb o z => k b (List.mem_append_left _ hb) (fun hf => ?_) o z) (cells_set r (by simpa using e) q' ok (List.nodup_append.mp nd).2.1 fun b hb => k b (List.mem_append_right _ hb))
    exact (List.nodup_append.mp nd).2.2 b hb b (mem_flat q' hf) rfl
/-- a cell at i is a list: what is to be known of it -/
theorem Sto.lst (S : Sto R w H st) {i : Nat} {xs : List PyData} (h : st[i]? = some (.mu xs)) : ∃ a vs, w.as[i]? = some a ∧ H a = some (.lst vs) ∧ DtAll R.K w.F vs xs ∧ w.F a = none := by
  obtain ⟨fps, C, nd, ok⟩ := S.ex
  have hl := C.length
  have hi : i < w.as.length := by rw [hl.1]; exact (List.getElem?_eq_some_iff.mp h).1
  obtain ⟨fp, e, c⟩ := C.get (List.getElem?_eq_getElem hi) h
  cases c with
  | mu h1 h2 => exact ⟨_, _, List.getElem?_eq_getElem hi, h1, h2, (ok _ (mem_flat e List.mem_cons_self)).1⟩
theorem Sto.lstF (S : Sto R w H st) {i : Nat} {xs : List PyData} (h : st[i]? = some (.fz xs)) : ∃ a vs, w.as[i]? = some a ∧ w.F a = some (.lst vs) ∧ DtAll R.K w.F vs xs := by
  obtain ⟨fps, C, nd, ok⟩ := S.ex
  have hl := C.length
  have hi : i < w.as.length := by rw [hl.1]; exact (List.getElem?_eq_some_iff.mp h).1
  obtain ⟨fp, e, c⟩ := C.get (List.getElem?_eq_getElem hi) h
  cases c with
  | fz h1 h2 => exact ⟨_, _, List.getElem?_eq_getElem hi, h1, h2⟩
/-- a list of its own is changed -/
theorem Sto.put (S : Sto R w H st) {i : Nat} {a : Addr} {xs ys : List PyData} {ws : List V} (h : st[i]? = some (.mu xs)) (ha : w.as[i]? = some a) (hw : DtAll R.K w.F ws ys) : Sto R w (upd H a (.lst ws)) (st.set i (.mu ys)) := by
  obtain ⟨fps, C, nd, ok⟩ := S.ex
  obtain ⟨fp, e, c⟩ := C.get ha h
  cases c with
  | mu h1 h2 =>
    have Fa : w.F a = none := (ok _ (mem_flat e List.mem_cons_self)).1
    refine ⟨fun b u q => ?_, fps, cells_set C ha e (.mu upd_same hw) nd fun b _ hn o q => ?_, nd, fun b hb => ?_⟩
    · rw [upd_ne (ne_of_none q Fa)]; exact S.sub b u q
    · rw [upd_ne (fun z => hn (by simp [z]))]; exact q
    · obtain ⟨k1, u, k2⟩ := ok b hb
      refine ⟨k1, ?_⟩
      by_cases hb : b = a
      · exact ⟨_, by rw [hb]; exact upd_same⟩
      · exact ⟨u, by rw [upd_ne hb]; exact k2⟩
/-- the last cells are forgotten -/
theorem Sto.drop (S : Sto R w H st) (n : Nat) : Sto R ⟨w.F, w.as.take n⟩ H (st.take n) := by
  obtain ⟨fps, C, nd, ok⟩ := S.ex
  have sub : ∀ b ∈ (fps.take n).flatten, b ∈ fps.flatten := fun b hb => by
    obtain ⟨l, h1, h2⟩ := List.mem_flatten.mp hb
    exact List.mem_flatten.mpr ⟨l, List.mem_of_mem_take h1, h2⟩
  refine ⟨S.sub, fps.take n, C.take n, ?_, fun b hb => ok b (sub b hb)⟩
  rw [← List.take_append_drop n fps, List.flatten_append] at nd
  exact (List.nodup_append.mp nd).1
theorem Sto.len (S : Sto R w H st) : w.as.length = st.length := by
  obtain ⟨fps, C, _⟩ := S.ex
  exact C.length.1
end
end WB

set_option maxRecDepth 100000
set_option maxHeartbeats 4000000
namespace WB
open PySem PySem.Spec PyProof.Rows L2

/-- what a piece of code comes to: a value and a store, an error by its class's number, or nothing that is known -/
inductive ER (α : Type) where
  | ok (v : α) (st : List Cell)
  | rs (c : Nat) (st : List Cell)
  | bad
def ER.bd {α β : Type} (r : ER α) (g : α → List Cell → ER β) : ER β := match r with
  | .ok v st => g v st
  | .rs c st => .rs c st
  | .bad => .bad
abbrev FF (α : Type) := List DV → List Cell → ER α
abbrev EF := FF DV
abbrev TF := FF Bool
abbrev AF := FF (List DV)

def Post {ι α : Type} (R : Rx) (W : WX) (w : Wd) (σ : St) (rel : Wd → ι → α → Prop) (Q : ι → Hp → Prop) : ER α → Prop
  | .ok v st => ∀ x H' w', w.le w' → Sto R w' H' st → rel w' x v → Q x H'
  | .rs c st => ∀ H' w', w.le w' → Sto R w' H' st → W (.ref (R.ca c)) none σ H'
  | .bad => False
theorem Post.mono {ι α : Type} {R : Rx} {W : WX} {w w' : Wd} {σ : St} {rel : Wd → ι → α → Prop} {Q : ι → Hp → Prop} (l : w.le w') : ∀ {r : ER α}, Post R W w σ rel Q r → Post R W w' σ rel Q r
  | .ok _ _, h => fun x H' w'' l' => h x H' w'' (l.trans l')
  | .rs _ _, h => fun H' w'' l' => h H' w'' (l.trans l')
  | .bad, h => h.elim
def Mt {ι α : Type} (R : Rx) (W : WX) (rel : Wd → ι → α → Prop) (t : St → Hp → (ι → Hp → Prop) → Prop) (f : FF α) : Prop :=
  ∀ (w : Wd) (H : Hp) (σ : St) (δ : List DV) (st : List Cell) (Q : ι → Hp → Prop), Sto R w H st → SlR R w σ δ → Post R W w σ rel Q (f δ st) → t σ H Q
def EqR {α : Type} : Wd → α → α → Prop := fun _ x v => x = v
inductive DvsR (R : Rx) (w : Wd) : List V → List DV → Prop
  | nil : DvsR R w [] []
  | cons {x : V} {v : DV} {xs : List V} {vs : List DV} : DvR R w x v → DvsR R w xs vs → DvsR R w (x :: xs) (v :: vs)
theorem DvsR.mono {R : Rx} {w w' : Wd} (l : w.le w') : ∀ {xs : List V} {vs : List DV}, DvsR R w xs vs → DvsR R w' xs vs
  | _, _, .nil => .nil
  | _, _, .cons h r => .cons (h.mono l) (DvsR.mono l r)
theorem DvsR.length {R : Rx} {w : Wd} : ∀ {xs : List V} {vs : List DV}, DvsR R w xs vs → xs.length = vs.length
  | _, _, .nil => rfl
  | _, _, .cons _ r => by rw [List.length_cons, List.length_cons, DvsR.length r]
abbrev MtE (R : Rx) (W : WX) (t : TE) (f : EF) : Prop := Mt R W (DvR R) t f
abbrev MtT (R : Rx) (W : WX) (t : TT) (f : TF) : Prop := Mt R W EqR t f
abbrev MtA (R : Rx) (W : WX) (t : TA) (f : AF) : Prop := Mt R W (DvsR R) t f

theorem Mt.seq {ι κ α β : Type} {R : Rx} {W : WX} {rel : Wd → ι → α → Prop} {rel2 : Wd → κ → β → Prop} {t : St → Hp → (ι → Hp → Prop) → Prop} {f : FF α} {g : α → List Cell → ER β} {w : Wd} {H : Hp} {σ : St} {δ : List DV} {st : List Cell} {Q : κ → Hp → Prop} {Q1 : ι → Hp → Prop}
    (h : Mt R W rel t f) (S : Sto R w H st) (L : SlR R w σ δ) (P : Post R W w σ rel2 Q ((f δ st).bd g))
    (k : ∀ v st1 x H1 w1, w.le w1 → Sto R w1 H1 st1 → SlR R w1 σ δ → rel w1 x v → Post R W w1 σ rel2 Q (g v st1) → Q1 x H1) : t σ H Q1 := by
  refine h w H σ δ st Q1 S L ?_
  cases e : f δ st with
  | ok v st1 =>
    rw [e] at P
    exact fun x H1 w1 l S1 r => k v st1 x H1 w1 l S1 (L.mono l) r (Post.mono l P)
  | rs c st1 =>
    rw [e] at P
    exact P
  | bad =>
    rw [e] at P
    exact P.elim

/-- where a piece of code stands: R's written part, nothing handled, room for k calls, the wish W about errors -/
structure Ct (R : Rx) (X : Cx) (W : WX) (k : Nat) : Prop where
  hK : X.K = R.K
  calm : X.calm = true
  room : Room k X.A
  tk : Takes X W
  own : PassesOwn (model X.prog X.w) X.A X.env X.xe
  nd : X.N.Nodup
theorem Ct.le {R : Rx} {X : Cx} {W : WX} {k j : Nat} (C : Ct R X W k) (h : j ≤ k) : Ct R X W j := ⟨C.hK, C.calm, C.room.mono h, C.tk, C.own, C.nd⟩

/-- e is worth f -/
def DE (R : Rx) (X : Cx) (W : WX) (e : Expr) (f : EF) : Prop := ∃ t, PE X e t ∧ MtE R W t f
def DT (R : Rx) (X : Cx) (W : WX) (e : Expr) (f : TF) : Prop := ∃ t, PT X e t ∧ MtT R W t f
def DW (R : Rx) (X : Cx) (W : WX) (e : Expr) (f : TF) : Prop := ∃ t, PW X e t ∧ MtT R W t f
def DA (R : Rx) (X : Cx) (W : WX) (es : List Expr) (f : AF) : Prop := ∃ t, PA X es t ∧ MtA R W t f

/-! ### names, constants -/
def dVar (i : Nat) : EF := fun δ st => match δ[i]? with
  | some .un => .bad
  | some v => .ok v st
  | none => .bad
def dC (d : PyData) : EF := fun _ st => .ok (.dat d) st
section
variable {R : Rx} {X : Cx} {W : WX} {k : Nat}
theorem mt_var (i : Nat) : MtE R W (tVar i) (dVar i) := by
  intro w H σ δ st Q S L P
  unfold dVar at P
  cases e : δ[i]? with
  | none => rw [e] at P; exact P.elim
  | some v =>
    rw [e] at P
    rcases L.get e with q | ⟨x, q, r⟩
    · subst q; exact P.elim
    · cases v with
      | un => exact P.elim
      | _ => exact ⟨x, q, P x H w (Wd.le.refl _) S r⟩
theorem mt_c {v : V} {d : PyData} (h : ∀ F, Dt R.K F v d) : MtE R W (tC v) (dC d) := fun w H σ δ st Q S L P => P v H w (Wd.le.refl _) S (h _)
theorem de_var (i : Nat) {x : Str} {pos : Pos} (hN : X.N[i]? = some x := by rfl) (hv : Vis X.env.scope x := by first | exact Or.inl rfl | exact Or.inr (Or.inl rfl) | exact Or.inr (Or.inr rfl)) (hd : (x == ("__debug__" : Str)) = false := by decide)
    (hcd : (x == ("__classdict__" : Str)) = false := by decide) : DE R X W (.Name x pos) (dVar i) := ⟨_, pe_var hN hv hd hcd, mt_var i⟩
theorem de_int {i : Int} {j pos} : DE R X W (.Constant (.int i) j pos) (dC (.int i)) := ⟨_, pe_int, mt_c fun _ => .int i⟩
theorem de_bl {b : Bool} {j pos} : DE R X W (.Constant (.bool b) j pos) (dC (.bool b)) := ⟨_, pe_bl, mt_c fun _ => .bl b⟩
theorem de_non {j pos} : DE R X W (.Constant .none j pos) (dC .none) := ⟨_, pe_non, mt_c fun _ => .non⟩
theorem de_str {x : Str} {j pos} : DE R X W (.Constant (.str x) j pos) (dC (.str x)) := ⟨_, pe_str, mt_c fun _ => .str x⟩
/-- a constant of the module -/
theorem de_glob {x : Str} {v : V} {u : Value} {d : PyData} {pos : Pos} (hm : X.mg x = some u) (r : RelV v u) (hd : ∀ F, Dt R.K F v d) (hg : Gl X x := by rfl) (hdb : (x == ("__debug__" : Str)) = false := by decide) : DE R X W (.Name x pos) (dC d) := ⟨_, pe_glob hg hm r hdb, mt_c hd⟩

/-! ### arguments -/
def dNil : AF := fun _ st => .ok [] st
def dCons (f : EF) (g : AF) : AF := fun δ st => (f δ st).bd fun v st1 => (g δ st1).bd fun vs st2 => .ok (v :: vs) st2
theorem da_nil : DA R X W [] dNil := ⟨_, pa_nil, fun w H σ δ st Q S L P => P [] H w (Wd.le.refl _) S .nil⟩
theorem da_cons {e : Expr} {es : List Expr} {f : EF} {g : AF} (he : DE R X W e f) (hr : DA R X W es g) (hs : starEach (e :: es) X.env = (false, eval e X.env) :: starEach es X.env := by rfl) : DA R X W (e :: es) (dCons f g) := by
  obtain ⟨te, pe, me⟩ := he
  obtain ⟨tr, pr, mr⟩ := hr
  refine ⟨_, pa_cons pe pr hs, fun w H σ δ st Q S L P => ?_⟩
  refine me.seq S L P fun v st1 x H1 w1 l1 S1 L1 r1 P1 => ?_
  refine mr.seq S1 L1 P1 fun vs st2 xs H2 w2 l2 S2 L2 r2 P2 => ?_
  exact P2 _ H2 w2 (Wd.le.refl _) S2 (.cons (r1.mono l2) r2)

/-! ### two values and an operation -/
def OpMt (R : Rx) (r : R2) (g : DV → DV → List Cell → ER DV) : Prop := ∀ (W : WX) (σ : St) (w : Wd) (H : Hp) (st : List Cell) (x y : V) (a b : DV) (Q : VK), Sto R w H st → DvR R w x a → DvR R w y b → Post R W w σ (DvR R) Q (g a b st) → r x y H Q
def dOp (g : DV → DV → List Cell → ER DV) (fa fb : EF) : EF := fun δ st => (fa δ st).bd fun a st1 => (fb δ st1).bd fun b st2 => g a b st2
theorem mt_op {r : R2} {g : DV → DV → List Cell → ER DV} {ta tb : TE} {fa fb : EF} (h : OpMt R r g) (ha : MtE R W ta fa) (hb : MtE R W tb fb) : MtE R W (tOp r ta tb) (dOp g fa fb) := by
  intro w H σ δ st Q S L P
  refine ha.seq S L P fun v st1 x H1 w1 l1 S1 L1 r1 P1 => ?_
  refine hb.seq S1 L1 P1 fun u st2 y H2 w2 l2 S2 L2 r2 P2 => ?_
  exact h W σ w2 H2 st2 x y v u Q S2 (r1.mono l2) r2 P2
theorem de_op {a b : Expr} {op : Operator} {pos : Pos} {r : R2} {g : DV → DV → List Cell → ER DV} {fa fb : EF} (ho : OpR X (binaryOp op) r) (h : OpMt R r g) (ha : DE R X W a fa) (hb : DE R X W b fb) : DE R X W (.BinOp a op b pos) (dOp g fa fb) := by
  obtain ⟨ta, pa, ma⟩ := ha
  obtain ⟨tb, pb, mb⟩ := hb
  exact ⟨_, pe_op ho pa pb, mt_op h ma mb⟩
theorem de_cmp {a b : Expr} {op : CmpOp} {pos : Pos} {r : R2} {g : DV → DV → List Cell → ER DV} {fa fb : EF} (ho : OpR X (compareOp op) r) (h : OpMt R r g) (ha : DE R X W a fa) (hb : DE R X W b fb) (hm : behindInMarks op b = false) : DE R X W (.Compare a [op] [b] pos) (dOp g fa fb) := by
  obtain ⟨ta, pa, ma⟩ := ha
  obtain ⟨tb, pb, mb⟩ := hb
  exact ⟨_, pe_cmpR ho pa pb hm, mt_op h ma mb⟩
/-- a truth as a test -/
def dT (f : EF) : TF := fun δ st => (f δ st).bd fun v st1 => match v with
  | .dat (.bool b) => .ok b st1
  | _ => .bad
theorem mt_test {t : TE} {f : EF} (h : MtE R W t f) : MtT R W (tTest t) (dT f) := by
  intro w H σ δ st Q S L P
  refine h.seq S L P fun v st1 x H1 w1 l1 S1 L1 r1 P1 => ?_
  cases v with
  | dat d =>
    cases d with
    | bool b => cases r1; exact ⟨b, rfl, P1 b H1 w1 (Wd.le.refl _) S1 rfl⟩
    | _ => exact P1.elim
  | _ => exact P1.elim
theorem dt_cmp {a b : Expr} {op : CmpOp} {pos : Pos} {r : R2} {g : DV → DV → List Cell → ER DV} {fa fb : EF} (ho : OpR X (compareOp op) r) (h : OpMt R r g) (ha : DE R X W a fa) (hb : DE R X W b fb) (hm : behindInMarks op b = false) : DT R X W (.Compare a [op] [b] pos) (dT (dOp g fa fb)) := by
  obtain ⟨ta, pa, ma⟩ := ha
  obtain ⟨tb, pb, mb⟩ := hb
  exact ⟨_, pt_cmpR ho pa pb hm, mt_test (mt_op h ma mb)⟩
/-- a value that is a truth, as a test -/
theorem dt_val {e : Expr} {f : EF} (h : DE R X W e f) (he : ∀ whole, isTrue e X.env whole = (do let v ← whole; standAt e.pos; holding [v] (truthy v)) := by intro _; rfl) : DT R X W e (dT f) := by
  obtain ⟨t, p, m⟩ := h
  exact ⟨_, pt_val p he, mt_test m⟩

/-! ### chains of comparisons -/
def dB (f : ER DV) (g : Bool → List Cell → ER DV) : ER DV := f.bd fun v st => match v with
  | .dat (.bool b) => g b st
  | _ => .bad
def dChain (g h : DV → DV → List Cell → ER DV) (fa fb fc : EF) : EF := fun δ st => (fa δ st).bd fun a st1 => (fb δ st1).bd fun b st2 => dB (g a b st2) fun k st3 =>
  if k = true then (fc δ st3).bd fun c st4 => h b c st4 else .ok (.dat (.bool false)) st3
theorem mt_chain {r r' : R2} {g h : DV → DV → List Cell → ER DV} {ta tb tc : TE} {fa fb fc : EF} (hg : OpMt R r g) (hh : OpMt R r' h) (ha : MtE R W ta fa) (hb : MtE R W tb fb) (hc : MtE R W tc fc) : MtE R W (tChain r r' ta tb tc) (dChain g h fa fb fc) := by
  intro w H σ δ st Q S L P
  refine ha.seq S L P fun v st1 x H1 w1 l1 S1 L1 r1 P1 => ?_
  refine hb.seq S1 L1 P1 fun u st2 y H2 w2 l2 S2 L2 r2 P2 => ?_
  refine hg W σ w2 H2 st2 x y v u _ S2 (r1.mono l2) r2 ?_
  unfold dB at P2
  cases e : g v u st2 with
  | bad => rw [e] at P2; exact P2.elim
  | rs c st3 => rw [e] at P2; exact P2
  | ok z st3 =>
    rw [e] at P2
    intro zv H3 w3 l3 S3 r3
    cases z with
    | dat d =>
      cases d with
      | bool b =>
        cases r3
        refine ⟨b, rfl, ?_⟩
        cases b with
        | false => exact P2 _ H3 w3 l3 S3 (.bl false)
        | true =>
          refine hc.seq S3 (L2.mono l3) (Post.mono l3 P2) fun z st4 zz H4 w4 l4 S4 L4 r4 P4 => ?_
          exact hh W σ w4 H4 st4 y zz u z Q S4 ((r2.mono l3).mono l4) r4 P4
      | _ => exact P2.elim
    | _ => exact P2.elim
theorem de_chain {a b c : Expr} {op op' : CmpOp} {pos : Pos} {r r' : R2} {g h : DV → DV → List Cell → ER DV} {fa fb fc : EF} (ho : OpR X (compareOp op) r) (hg : OpMt R r g) (ho' : OpR X (compareOp op') r') (hh : OpMt R r' h) (ha : DE R X W a fa) (hb : DE R X W b fb) (hc : DE R X W c fc)
    (hm : lastMarks [op, op'] [b, c] = false := by with_unfolding_all rfl) : DE R X W (.Compare a [op, op'] [b, c] pos) (dChain g h fa fb fc) := by
  obtain ⟨ta, pa, ma⟩ := ha
  obtain ⟨tb, pb, mb⟩ := hb
  obtain ⟨tc, pc, mc⟩ := hc
  exact ⟨_, pe_chain ho ho' pa pb pc hm, mt_chain hg hh ma mb mc⟩
theorem dt_chain {a b c : Expr} {op op' : CmpOp} {pos : Pos} {r r' : R2} {g h : DV → DV → List Cell → ER DV} {fa fb fc : EF} (ho : OpR X (compareOp op) r) (hg : OpMt R r g) (ho' : OpR X (compareOp op') r') (hh : OpMt R r' h) (ha : DE R X W a fa) (hb : DE R X W b fb) (hc : DE R X W c fc)
    (hm : lastMarks [op, op'] [b, c] = false := by with_unfolding_all rfl) : DT R X W (.Compare a [op, op'] [b, c] pos) (dT (dChain g h fa fb fc)) := by
  obtain ⟨ta, pa, ma⟩ := ha
  obtain ⟨tb, pb, mb⟩ := hb
  obtain ⟨tc, pc, mc⟩ := hc
  exact ⟨_, pt_chain ho ho' pa pb pc hm, mt_test (mt_chain hg hh ma mb mc)⟩

/-! ### and, or, not, if else -/
def dAnd (f g : TF) : TF := fun δ st => (f δ st).bd fun b st1 => if b = true then g δ st1 else .ok false st1
def dOr (f g : TF) : TF := fun δ st => (f δ st).bd fun b st1 => if b = true then .ok true st1 else g δ st1
def dNot (f : TF) : TF := fun δ st => (f δ st).bd fun b st1 => .ok (!b) st1
theorem dw_and1 {a : Expr} {pos : Pos} {f : TF} (h : DT R X W a f) : DW R X W (.BoolOp .And [a] pos) f := let ⟨_, p, m⟩ := h; ⟨_, pw_and1 p, m⟩
theorem dw_or1 {a : Expr} {pos : Pos} {f : TF} (h : DT R X W a f) : DW R X W (.BoolOp .Or [a] pos) f := let ⟨_, p, m⟩ := h; ⟨_, pw_or1 p, m⟩
theorem dw_and {a b : Expr} {rest : List Expr} {pos : Pos} {f g : TF} (ha : DT R X W a f) (hb : DW R X W (.BoolOp .And (b :: rest) pos) g) : DW R X W (.BoolOp .And (a :: b :: rest) pos) (dAnd f g) := by
  obtain ⟨ta, pa, ma⟩ := ha
  obtain ⟨tb, pb, mb⟩ := hb
  refine ⟨_, pw_and pa pb, fun w H σ δ st Q S L P => ?_⟩
  refine ma.seq S L P fun v st1 x H1 w1 l1 S1 L1 r1 P1 => ?_
  cases r1
  cases v with
  | false => exact P1 _ H1 w1 (Wd.le.refl _) S1 rfl
  | true => exact mb w1 H1 σ δ st1 Q S1 L1 P1
theorem dw_or {a b : Expr} {rest : List Expr} {pos : Pos} {f g : TF} (ha : DT R X W a f) (hb : DW R X W (.BoolOp .Or (b :: rest) pos) g) : DW R X W (.BoolOp .Or (a :: b :: rest) pos) (dOr f g) := by
  obtain ⟨ta, pa, ma⟩ := ha
  obtain ⟨tb, pb, mb⟩ := hb
  refine ⟨_, pw_or pa pb, fun w H σ δ st Q S L P => ?_⟩
  refine ma.seq S L P fun v st1 x H1 w1 l1 S1 L1 r1 P1 => ?_
  cases r1
  cases v with
  | true => exact P1 _ H1 w1 (Wd.le.refl _) S1 rfl
  | false => exact mb w1 H1 σ δ st1 Q S1 L1 P1
theorem dt_w {e : Expr} {f : TF} (h : DW R X W e f) : DT R X W e f := let ⟨_, p, m⟩ := h; ⟨_, p.pt, m⟩
theorem dt_not {a : Expr} {pos : Pos} {f : TF} (h : DT R X W a f) : DT R X W (.UnaryOp .Not a pos) (dNot f) := by
  obtain ⟨t, p, m⟩ := h
  refine ⟨_, pt_not p, fun w H σ δ st Q S L P => ?_⟩
  refine m.seq S L P fun v st1 x H1 w1 l1 S1 L1 r1 P1 => ?_
  cases r1
  exact P1 _ H1 w1 (Wd.le.refl _) S1 rfl
def dIf (c : TF) (f g : EF) : EF := fun δ st => (c δ st).bd fun b st1 => if b = true then f δ st1 else g δ st1
theorem de_if {c a b : Expr} {pos : Pos} {fc : TF} {f g : EF} (hc : DT R X W c fc) (ha : DE R X W a f) (hb : DE R X W b g) : DE R X W (.IfExp c a b pos) (dIf fc f g) := by
  obtain ⟨tc, pc, mc⟩ := hc
  obtain ⟨ta, pa, ma⟩ := ha
  obtain ⟨tb, pb, mb⟩ := hb
  refine ⟨_, pe_ifExp pc pa pb, fun w H σ δ st Q S L P => ?_⟩
  refine mc.seq S L P fun v st1 x H1 w1 l1 S1 L1 r1 P1 => ?_
  cases r1
  cases v with
  | true => exact ma w1 H1 σ δ st1 Q S1 L1 P1
  | false => exact mb w1 H1 σ δ st1 Q S1 L1 P1
/-- and, or, not as values that are truths -/
def dAndV (f g : EF) : EF := fun δ st => dB (f δ st) fun b st1 => if b = true then g δ st1 else .ok (.dat (.bool false)) st1
def dOrV (f g : EF) : EF := fun δ st => dB (f δ st) fun b st1 => if b = true then .ok (.dat (.bool true)) st1 else g δ st1
def dNotV (f : EF) : EF := fun δ st => dB (f δ st) fun b st1 => .ok (.dat (.bool (!b))) st1
theorem de_one {op} {a : Expr} {pos : Pos} {f : EF} (h : DE R X W a f) : DE R X W (.BoolOp op [a] pos) f := let ⟨_, p, m⟩ := h; ⟨_, pe_one p, m⟩
theorem Mt.seqB {t : TE} {f : EF} {g : Bool → List Cell → ER DV} {w : Wd} {H : Hp} {σ : St} {δ : List DV} {st : List Cell} {Q : VK} {Q1 : VK} (h : MtE R W t f) (S : Sto R w H st) (L : SlR R w σ δ) (P : Post R W w σ (DvR R) Q (dB (f δ st) g))
    (k : ∀ b st1 H1 w1, w.le w1 → Sto R w1 H1 st1 → SlR R w1 σ δ → Post R W w1 σ (DvR R) Q (g b st1) → Q1 (.bl b) H1) : t σ H Q1 := by
  refine h.seq S L P fun v st1 x H1 w1 l1 S1 L1 r1 P1 => ?_
  cases v with
  | dat d =>
    cases d with
    | bool b => cases r1; exact k b st1 H1 w1 l1 S1 L1 P1
    | _ => exact P1.elim
  | _ => exact P1.elim
theorem de_and {a b : Expr} {rest : List Expr} {pos : Pos} {f g : EF} (ha : DE R X W a f) (hb : DE R X W (.BoolOp .And (b :: rest) pos) g) : DE R X W (.BoolOp .And (a :: b :: rest) pos) (dAndV f g) := by
  obtain ⟨ta, pa, ma⟩ := ha
  obtain ⟨tb, pb, mb⟩ := hb
  refine ⟨_, pe_and pa pb, fun w H σ δ st Q S L P => ?_⟩
  refine ma.seqB S L P fun b st1 H1 w1 l1 S1 L1 P1 => ⟨b, rfl, ?_⟩
  cases b with
  | true => exact mb w1 H1 σ δ st1 Q S1 L1 P1
  | false => exact P1 _ H1 w1 (Wd.le.refl _) S1 (.bl false)
theorem de_or {a b : Expr} {rest : List Expr} {pos : Pos} {f g : EF} (ha : DE R X W a f) (hb : DE R X W (.BoolOp .Or (b :: rest) pos) g) : DE R X W (.BoolOp .Or (a :: b :: rest) pos) (dOrV f g) := by
  obtain ⟨ta, pa, ma⟩ := ha
  obtain ⟨tb, pb, mb⟩ := hb
  refine ⟨_, pe_or pa pb, fun w H σ δ st Q S L P => ?_⟩
  refine ma.seqB S L P fun b st1 H1 w1 l1 S1 L1 P1 => ⟨b, rfl, ?_⟩
  cases b with
  | false => exact mb w1 H1 σ δ st1 Q S1 L1 P1
  | true => exact P1 _ H1 w1 (Wd.le.refl _) S1 (.bl true)
theorem de_not {a : Expr} {pos : Pos} {f : EF} (h : DE R X W a f) : DE R X W (.UnaryOp .Not a pos) (dNotV f) := by
  obtain ⟨t, p, m⟩ := h
  refine ⟨_, pe_not p, fun w H σ δ st Q S L P => ?_⟩
  exact m.seqB S L P fun b st1 H1 w1 l1 S1 L1 P1 => ⟨b, rfl, P1 _ H1 w1 (Wd.le.refl _) S1 (.bl _)⟩
end
end WB

set_option maxRecDepth 100000
set_option maxHeartbeats 4000000
namespace WB
open PySem PySem.Spec PyProof.Rows L2

/-! ### a cell is frozen -/
theorem flat_set {α : Type} : ∀ (l : List (List α)) (i : Nat), (l.set i []).flatten.Sublist l.flatten
  | [], _ => List.Sublist.refl _
  | x :: l, 0 => by
    rw [List.set_cons_zero, List.flatten_cons, List.flatten_cons, List.nil_append]
    exact List.sublist_append_right _ _
  | x :: l, i + 1 => by
    rw [List.set_cons_succ, List.flatten_cons, List.flatten_cons]
    exact List.Sublist.append (List.Sublist.refl _) (flat_set l i)
theorem not_flat_set {α : Type} : ∀ {l : List (List α)} {i : Nat} {x : List α} {b : α}, l.flatten.Nodup → l[i]? = some x → b ∈ x → b ∉ (l.set i []).flatten
  | [], i, _, _, _, e, _ => by simp at e
  | y :: l, 0, x, b, nd, e, hb => by
    simp at e; subst e
    rw [List.set_cons_zero, List.flatten_cons, List.nil_append]
    rw [List.flatten_cons] at nd
    exact fun h => (List.nodup_append.mp nd).2.2 b hb b h rfl
  | y :: l, i + 1, x, b, nd, e, hb => by
    have e' : l[i]? = some x := by simpa using e
    rw [List.flatten_cons] at nd
    rw [List.set_cons_succ, List.flatten_cons]
    intro h
    rcases List.mem_append.mp h with h | h
    · exact (List.nodup_append.mp nd).2.2 b h b (mem_flat e' hb) rfl
    · exact not_flat_set (List.nodup_append.mp nd).2.1 e' hb h
theorem cells_frz {R : Rx} {F F' H : Hp} (s : Same F F') : ∀ {as : List Addr} {cs : List Cell} {fps : List (List Addr)} {i : Nat} {a : Addr} {c : Cell} {fp : List Addr}, Cells R F H as cs fps → as[i]? = some a → CellOk R F' H a c fp → Cells R F' H as (cs.set i c) (fps.set i fp)
  | _, _, _, i, _, _, _, .nil, e, _ => by simp at e
  | _, _, _, 0, _, _, _, .cons h r, e, ok => by
    simp at e; subst e
    exact .cons ok (Cells.keep s r fun _ _ _ q => q)
  | _, _, _, i + 1, _, _, _, .cons h r, e, ok => .cons (h.keep s fun _ _ _ q => q) (cells_frz s r (by simpa using e) ok)
theorem Sto.frz {R : Rx} {w : Wd} {H : Hp} {st : List Cell} (S : Sto R w H st) {i : Nat} {xs : List PyData} (h : st[i]? = some (.mu xs)) :
    ∃ a vs, w.as[i]? = some a ∧ H a = some (.lst vs) ∧ w.F a = none ∧ DtAll R.K w.F vs xs ∧ Sto R ⟨upd w.F a (.lst vs), w.as⟩ H (st.set i (.fz xs)) ∧ w.le ⟨upd w.F a (.lst vs), w.as⟩ := by
  obtain ⟨fps, C, nd, ok⟩ := S.ex
  have hl := C.length
  have hi : i < w.as.length := by rw [hl.1]; exact (List.getElem?_eq_some_iff.mp h).1
  have ha := List.getElem?_eq_getElem hi
  obtain ⟨fp, e, c⟩ := C.get ha h
  cases c with
  | @mu vs _ h1 h2 =>
    have Fa : w.F w.as[i] = none := (ok _ (mem_flat e List.mem_cons_self)).1
    have sF : Same w.F (upd w.F w.as[i] (.lst vs)) := fun b u q => by rw [upd_ne (ne_of_none q Fa)]; exact q
    refine ⟨_, vs, ha, h1, Fa, h2, ⟨fun b u q => ?_, fps.set i [], cells_frz sF C ha (.fz upd_same (DtAll.mono sF h2)), List.Nodup.sublist (flat_set fps i) nd, fun b hb => ?_⟩, sF, List.prefix_refl _⟩
    · by_cases hb : b = w.as[i]
      · have q' : upd w.F w.as[i] (.lst vs) b = some u := q
        rw [hb, upd_same] at q'
        rw [hb, ← q']; exact h1
      · have q' : upd w.F w.as[i] (.lst vs) b = some u := q
        rw [upd_ne hb] at q'; exact S.sub b u q'
    · have nb : b ≠ w.as[i] := fun z => not_flat_set nd e (List.mem_cons_self) (z ▸ hb)
      obtain ⟨k1, k2⟩ := ok b ((flat_set fps i).subset hb)
      exact ⟨by show upd w.F w.as[i] (.lst vs) b = none; rw [upd_ne nb]; exact k1, k2⟩

/-! ### statements -/
inductive SR where
  | nx (δ : List DV) (st : List Cell)
  | rt (v : DV) (st : List Cell)
  | br (δ : List DV) (st : List Cell)
  | ct (δ : List DV) (st : List Cell)
  | rs (c : Nat) (δ : List DV) (st : List Cell)
  | bad
abbrev SF := List DV → List Cell → SR
def ER.sr {α : Type} (r : ER α) (δ : List DV) (g : α → List Cell → SR) : SR := match r with
  | .ok v st => g v st
  | .rs c st => .rs c δ st
  | .bad => .bad
def PostS (R : Rx) (W : WX) (w : Wd) (D : Ends) : SR → Prop
  | .nx δ st => ∀ σ' H' w', w.le w' → Sto R w' H' st → SlR R w' σ' δ → D.nx σ' H'
  | .rt v st => ∀ x H' w', w.le w' → Sto R w' H' st → DvR R w' x v → D.rt x H'
  | .br δ st => ∀ σ' H' w', w.le w' → Sto R w' H' st → SlR R w' σ' δ → D.bk σ' H'
  | .ct δ st => ∀ σ' H' w', w.le w' → Sto R w' H' st → SlR R w' σ' δ → D.ct σ' H'
  | .rs c δ st => ∀ σ' H' w', w.le w' → Sto R w' H' st → SlR R w' σ' δ → W (.ref (R.ca c)) none σ' H'
  | .bad => False
theorem PostS.mono {R : Rx} {W : WX} {w w' : Wd} {D : Ends} (l : w.le w') : ∀ {r : SR}, PostS R W w D r → PostS R W w' D r
  | .nx _ _, h => fun σ H' w'' l' => h σ H' w'' (l.trans l')
  | .rt _ _, h => fun σ H' w'' l' => h σ H' w'' (l.trans l')
  | .br _ _, h => fun σ H' w'' l' => h σ H' w'' (l.trans l')
  | .ct _ _, h => fun σ H' w'' l' => h σ H' w'' (l.trans l')
  | .rs _ _ _, h => fun σ H' w'' l' => h σ H' w'' (l.trans l')
  | .bad, h => h.elim
def MtS (R : Rx) (W : WX) (t : TS) (f : SF) : Prop :=
  ∀ (w : Wd) (H : Hp) (σ : St) (δ : List DV) (st : List Cell) (D : Ends), Sto R w H st → SlR R w σ δ → PostS R W w D (f δ st) → t D σ H
theorem Mt.seqS {ι α : Type} {R : Rx} {W : WX} {rel : Wd → ι → α → Prop} {t : St → Hp → (ι → Hp → Prop) → Prop} {f : FF α} {g : α → List Cell → SR} {w : Wd} {H : Hp} {σ : St} {δ : List DV} {st : List Cell} {D : Ends} {Q1 : ι → Hp → Prop}
    (h : Mt R W rel t f) (S : Sto R w H st) (L : SlR R w σ δ) (P : PostS R W w D ((f δ st).sr δ g))
    (k : ∀ v st1 x H1 w1, w.le w1 → Sto R w1 H1 st1 → SlR R w1 σ δ → rel w1 x v → PostS R W w1 D (g v st1) → Q1 x H1) : t σ H Q1 := by
  refine h w H σ δ st Q1 S L ?_
  cases e : f δ st with
  | ok v st1 =>
    rw [e] at P
    exact fun x H1 w1 l S1 r => k v st1 x H1 w1 l S1 (L.mono l) r (PostS.mono l P)
  | rs c st1 =>
    rw [e] at P
    exact fun H1 w1 l S1 => P σ H1 w1 l S1 (L.mono l)
  | bad =>
    rw [e] at P
    exact P.elim
def DS (R : Rx) (X : Cx) (W : WX) (s : Stmt) (f : SF) : Prop := ∃ t, PS X s t ∧ MtS R W t f
def DSs (R : Rx) (X : Cx) (W : WX) (s : List Stmt) (f : SF) : Prop := ∃ t, PSs X s t ∧ MtS R W t f

def sNil : SF := fun δ st => .nx δ st
def sSeq (f g : SF) : SF := fun δ st => match f δ st with
  | .nx δ' st' => g δ' st'
  | .rt v st' => .rt v st'
  | .br δ' st' => .br δ' st'
  | .ct δ' st' => .ct δ' st'
  | .rs c δ' st' => .rs c δ' st'
  | .bad => .bad
section
variable {R : Rx} {X : Cx} {W : WX} {k : Nat}
theorem mts_seq {t u : TS} {f g : SF} (ht : MtS R W t f) (hu : MtS R W u g) : MtS R W (tSeq t u) (sSeq f g) := by
  intro w H σ δ st D S L P
  refine ht w H σ δ st _ S L ?_
  unfold sSeq at P
  cases e : f δ st with
  | nx δ' st' =>
    rw [e] at P
    exact fun σ' H' w' l S' L' => hu w' H' σ' δ' st' D S' L' (PostS.mono l P)
  | rt _ _ => rw [e] at P; exact P
  | br _ _ => rw [e] at P; exact P
  | ct _ _ => rw [e] at P; exact P
  | rs _ _ _ => rw [e] at P; exact P
  | bad => rw [e] at P; exact P.elim
theorem dss_nil : DSs R X W [] sNil := ⟨_, pss_nil, fun w H σ δ st D S L P => P σ H w (Wd.le.refl _) S L⟩
theorem dss_cons {s : Stmt} {ss : List Stmt} {f g : SF} (h : DS R X W s f) (r : DSs R X W ss g) : DSs R X W (s :: ss) (sSeq f g) := by
  obtain ⟨t, p, m⟩ := h
  obtain ⟨u, q, n⟩ := r
  exact ⟨_, pss_cons p q, mts_seq m n⟩
theorem dss_one {s : Stmt} {f : SF} (h : DS R X W s f) : DSs R X W [s] f := let ⟨_, p, m⟩ := h; ⟨_, pss_one p, m⟩
theorem ds_pass {pos : Pos} : DS R X W (.Pass pos) sNil := ⟨_, ps_pass, fun w H σ δ st D S L P => P σ H w (Wd.le.refl _) S L⟩
theorem ds_doc {x j pos pos'} : DS R X W (.Expr (.Constant (.str x) j pos) pos') sNil := ⟨_, ps_doc, fun w H σ δ st D S L P => P σ H w (Wd.le.refl _) S L⟩
def sBreak : SF := fun δ st => .br δ st
def sCont : SF := fun δ st => .ct δ st
theorem ds_break {pos : Pos} : DS R X W (.Break pos) sBreak := ⟨_, ps_break, fun w H σ δ st D S L P => P σ H w (Wd.le.refl _) S L⟩
theorem ds_cont {pos : Pos} : DS R X W (.Continue pos) sCont := ⟨_, ps_continue, fun w H σ δ st D S L P => P σ H w (Wd.le.refl _) S L⟩
def sExpr (f : EF) : SF := fun δ st => (f δ st).sr δ fun _ st1 => .nx δ st1
theorem ds_expr {e : Expr} {f : EF} {pos : Pos} (h : DE R X W e f) (hs : swapsWith e none pos.line X.env = pure false := by rfl) : DS R X W (.Expr e pos) (sExpr f) := by
  obtain ⟨t, p, m⟩ := h
  refine ⟨_, ps_expr p hs, fun w H σ δ st D S L P => ?_⟩
  exact m.seqS S L P fun v st1 x H1 w1 l1 S1 L1 r1 P1 => P1 σ H1 w1 (Wd.le.refl _) S1 L1
def sRet (f : EF) : SF := fun δ st => (f δ st).sr δ fun v st1 => .rt v st1
theorem ds_ret {e : Expr} {f : EF} {pos : Pos} (h : DE R X W e f) : DS R X W (.Return (some e) pos) (sRet f) := by
  obtain ⟨t, p, m⟩ := h
  refine ⟨_, ps_ret p, fun w H σ δ st D S L P => ?_⟩
  exact m.seqS S L P fun v st1 x H1 w1 l1 S1 L1 r1 P1 => P1 x H1 w1 (Wd.le.refl _) S1 r1
def sRetN : SF := fun _ st => .rt (.dat .none) st
theorem ds_retN {pos : Pos} : DS R X W (.Return none pos) sRetN := ⟨_, ps_retN, fun w H σ δ st D S L P => P .non H w (Wd.le.refl _) S .non⟩
def sIf (c : TF) (f g : SF) : SF := fun δ st => (c δ st).sr δ fun b st1 => if b = true then f δ st1 else g δ st1
theorem ds_if {c : Expr} {a b : List Stmt} {fc : TF} {f g : SF} {pos : Pos} (hc : DT R X W c fc) (ha : DSs R X W a f) (hb : DSs R X W b g) : DS R X W (.If c a b pos) (sIf fc f g) := by
  obtain ⟨tc, pc, mc⟩ := hc
  obtain ⟨ta, pa, ma⟩ := ha
  obtain ⟨tb, pb, mb⟩ := hb
  refine ⟨_, ps_if pc pa pb, fun w H σ δ st D S L P => ?_⟩
  refine mc.seqS S L P fun v st1 x H1 w1 l1 S1 L1 r1 P1 => ?_
  cases r1
  cases v with
  | true => exact ma w1 H1 σ δ st1 D S1 L1 P1
  | false => exact mb w1 H1 σ δ st1 D S1 L1 P1
/-- x = e -/
def sSet (i : Nat) (f : EF) : SF := fun δ st => (f δ st).sr δ fun v st1 => .nx (δ.set i v) st1
theorem mts_set {t : TE} {f : EF} {i : Nat} (m : MtE R W t f) : MtS R W (tAsg t (gName i)) (sSet i f) := by
  intro w H σ δ st D S L P
  exact m.seqS S L P fun v st1 x H1 w1 l1 S1 L1 r1 P1 => P1 _ H1 w1 (Wd.le.refl _) S1 (L1.set r1 i)
theorem ds_set (C : Ct R X W k) {i : Nat} {x : Str} {e : Expr} {f : EF} {pos pos' : Pos} (hi : X.N[i]? = some x) (hx : Loc X.env.scope x) (h : DE R X W e f) (hs : swapsWith e (some (.Name x pos')) pos.line X.env = pure false := by rfl)
    (hf : X.fn x = true ∨ X.env.scope.names.lookup x = some .local := by first | exact .inl rfl | exact .inr rfl | assumption) : DS R X W (.Assign [.Name x pos'] e pos) (sSet i f) := by
  obtain ⟨t, p, m⟩ := h
  exact ⟨_, ps_set C.nd hi hx p hs hf, mts_set m⟩
/-- targets that are names, of a tuple -/
def setAll : List Nat → List PyData → List DV → List DV
  | i :: is, d :: ds, δ => setAll is ds (δ.set i (.dat d))
  | _, _, δ => δ
def gAll : List Nat → TGs
  | [] => gNil
  | i :: is => gCons (gName i) (gAll is)
theorem gAll_ok {w : Wd} {H : Hp} {Q : St → Hp → Prop} : ∀ {is : List Nat} {xs : List V} {ds : List PyData} {σ : St} {δ : List DV}, is.length = ds.length → DtAll R.K w.F xs ds → SlR R w σ δ → (∀ σ', SlR R w σ' (setAll is ds δ) → Q σ' H) → gAll is xs σ H Q
  | [], _, [], σ, δ, _, .nil, L, q => ⟨rfl, q σ L⟩
  | i :: is, _, d :: ds, σ, δ, hl, .cons (v := v) (vs := vs) h r, L, q => ⟨v, vs, rfl, gAll_ok (by simpa using hl) r (L.set (R := R) (d := .dat d) h i) q⟩
/-- a, b = e, e a tuple -/
def sUnp (is : List Nat) (f : EF) : SF := fun δ st => (f δ st).sr δ fun v st1 => match v with
  | .dat (.tuple ds) => if ds.length = is.length then .nx (setAll is ds δ) st1 else .bad
  | _ => .bad
theorem mts_unp {K : PySem.W.Frag} {t : TE} {f : EF} {is : List Nat} (hK : K = R.K) (m : MtE R W t f) : MtS R W (tAsg t (gTup K is.length (gAll is))) (sUnp is f) := by
  intro w H σ δ st D S L P
  refine m.seqS S L P fun v st1 x H1 w1 l1 S1 L1 r1 P1 => ?_
  cases v with
  | dat d =>
    cases d with
    | tuple ds =>
      by_cases hn : ds.length = is.length
      · dsimp only at P1
        rw [if_pos hn] at P1
        cases r1 with
        | tup hs ha =>
          subst hK
          exact ⟨_, _, rfl, sqT_mono S1.sub hs, ha.length.trans hn, gAll_ok hn.symm ha L1 fun σ' L' => P1 σ' H1 w1 (Wd.le.refl _) S1 L'⟩
      · dsimp only at P1
        rw [if_neg hn] at P1
        exact P1.elim
    | _ => exact P1.elim
  | _ => exact P1.elim
/-- names as targets -/
inductive NmT (X : Cx) : List Expr → List Nat → Prop
  | nil : NmT X [] []
  | cons {x : Str} {pos : Pos} {i : Nat} {es : List Expr} {is : List Nat} : X.N[i]? = some x → Loc X.env.scope x → (X.fn x = true ∨ X.env.scope.names.lookup x = some .local) → (assignEach (.Name x pos :: es) X.env).map (·.2) = assign (.Name x pos) X.env :: (assignEach es X.env).map (·.2) → NmT X es is → NmT X (.Name x pos :: es) (i :: is)
theorem NmT.pgs (nd : X.N.Nodup) : ∀ {es : List Expr} {is : List Nat}, NmT X es is → PGs X es (gAll is)
  | _, _, .nil => pgs_nil
  | _, _, .cons h1 h2 h3 h4 r => pgs_cons (pg_name nd h1 h2 h3) (NmT.pgs nd r) h4
theorem ds_unp (C : Ct R X W k) {is : List Nat} {es : List Expr} {e : Expr} {f : EF} {kk : Nat} {pos pos' : Pos} (hn : NmT X es is) (h : DE R X W e f)
    (hs : swapsWithSole [.Tuple es kk pos'] e pos.line X.env = pure false := by rfl) (hw : swappedStores [.Tuple es kk pos'] e X.env = pure none := by rfl) (h1 : (assignEach [.Tuple es kk pos'] X.env).map (·.2) = [assign (.Tuple es kk pos') X.env] := by rfl)
    (hl : (assignEach es X.env).length = is.length := by rfl) (hst : (assignEach es X.env).findIdx? (·.1) = none := by rfl) : DS R X W (.Assign [.Tuple es kk pos'] e pos) (sUnp is f) := by
  obtain ⟨t, p, m⟩ := h
  exact ⟨_, ps_asg p (pg_tup C.calm (hn.pgs C.nd) hl hst) hs hw h1, mts_unp C.hK m⟩

/-! ### loops -/
/-- the items one by one -/
def forL (g : PyData → List DV → Option (List DV)) (f : SF) : List PyData → SF
  | [], δ, st => .nx δ st
  | d :: ds, δ, st => match g d δ with
    | none => .bad
    | some δ0 => match f δ0 st with
      | .nx δ' st' => forL g f ds δ' st'
      | .ct δ' st' => forL g f ds δ' st'
      | .br δ' st' => .nx δ' st'
      | .rt v st' => .rt v st'
      | .rs c δ' st' => .rs c δ' st'
      | .bad => .bad
/-- a target's meaning -/
def TgMt (R : Rx) (g : TG) (h : PyData → List DV → Option (List DV)) : Prop := ∀ (w : Wd) (H : Hp) (st : List Cell) (x : V) (d : PyData) (σ : St) (δ δ0 : List DV) (Q : St → Hp → Prop), Sto R w H st → Dt R.K w.F x d → SlR R w σ δ → h d δ = some δ0 → (∀ σ', SlR R w σ' δ0 → Q σ' H) → g x σ H Q
def tgN (i : Nat) : PyData → List DV → Option (List DV) := fun d δ => some (δ.set i (.dat d))
theorem tgMt_name (i : Nat) : TgMt R (gName i) (tgN i) := fun w H st x d σ δ δ0 Q S h L e q => by
  cases e
  exact q _ (L.set (d := .dat d) h i)
def tgT (is : List Nat) : PyData → List DV → Option (List DV) := fun d δ => match d with
  | .tuple ds => if ds.length = is.length then some (setAll is ds δ) else none
  | _ => none
theorem tgMt_tup {K : PySem.W.Frag} (hK : K = R.K) (is : List Nat) : TgMt R (gTup K is.length (gAll is)) (tgT is) := fun w H st x d σ δ δ0 Q S h L e q => by
  unfold tgT at e
  cases d with
  | tuple ds =>
    dsimp only at e
    by_cases hn : ds.length = is.length
    · rw [if_pos hn] at e
      cases e
      cases h with
      | tup hs ha =>
        subst hK
        exact ⟨_, _, rfl, sqT_mono S.sub hs, ha.length.trans hn, gAll_ok hn.symm ha L q⟩
    · rw [if_neg hn] at e; cases e
  | _ => cases e
theorem PostS.step {w w' : Wd} {D : Ends} {g : PyData → List DV → Option (List DV)} {f : SF} {d : PyData} {ds : List PyData} {δ δ0 : List DV} {st : List Cell} {Nx : St → Hp → Prop} (hg : g d δ = some δ0) (P : PostS R W w D (forL g f (d :: ds) δ st))
    (k : ∀ δ' st', PostS R W w D (forL g f ds δ' st') → ∀ σ' H' w', w.le w' → Sto R w' H' st' → SlR R w' σ' δ' → Nx σ' H') : PostS R W w { D with nx := Nx, ct := Nx, bk := D.nx } (f δ0 st) := by
  unfold forL at P
  rw [hg] at P
  dsimp only at P
  cases e : f δ0 st with
  | nx δ' st' => rw [e] at P; exact k δ' st' P
  | ct δ' st' => rw [e] at P; exact k δ' st' P
  | br δ' st' => rw [e] at P; exact P
  | rt v st' => rw [e] at P; exact P
  | rs c δ' st' => rw [e] at P; exact P
  | bad => rw [e] at P; exact P.elim
end
end WB

set_option maxRecDepth 100000
set_option maxHeartbeats 4000000
namespace WB
open PySem PySem.Spec PyProof.Rows L2

/-- what is walked: the items, while G holds of the store -/
structure Wk (R : Rx) (w : Wd) (J : It) (items : List PyData) (G : List Cell → Prop) : Prop where
  go : ∀ (i : Nat) (d : PyData) (w' : Wd) (H : Hp) (st : List Cell), w.le w' → Sto R w' H st → G st → items[i]? = some d → J.go i H ∧ ∀ x H', J.yld i H x H' → H' = H ∧ Dt R.K w'.F x d
  stop : ∀ (w' : Wd) (H : Hp) (st : List Cell), w.le w' → Sto R w' H st → G st → J.stop items.length H
def AnyG : List Cell → Prop := fun _ => True
def CellG (k : Nat) (xs : List PyData) : List Cell → Prop := fun st => st[k]? = some (.mu xs)
abbrev IF := FF (List PyData)
/-- the source's meaning; G by what is walked -/
def PostI (R : Rx) (W : WX) (G : List PyData → List DV → List Cell → List Cell → Prop) (w : Wd) (σ : St) (δ : List DV) (Rk : It → Hp → Prop) : ER (List PyData) → Prop
  | .ok items st1 => ∀ J H' w', w.le w' → Sto R w' H' st1 → Wk R w' J items (G items δ st1) → Rk J H'
  | .rs c st1 => ∀ H' w', w.le w' → Sto R w' H' st1 → W (.ref (R.ca c)) none σ H'
  | .bad => False
def MtI (R : Rx) (W : WX) (G : List PyData → List DV → List Cell → List Cell → Prop) (wi : TI) (f : IF) : Prop :=
  ∀ (w : Wd) (H : Hp) (σ : St) (δ : List DV) (st : List Cell) (Rk : It → Hp → Prop), Sto R w H st → SlR R w σ δ → PostI R W G w σ δ Rk (f δ st) → wi σ H Rk
def DI (R : Rx) (X : Cx) (W : WX) (G : List PyData → List DV → List Cell → List Cell → Prop) (tg iter : Expr) (f : IF) : Prop := ∃ wi, PI X tg iter wi ∧ MtI R W G wi f
abbrev G0 : List PyData → List DV → List Cell → List Cell → Prop := fun _ _ _ => AnyG
/-- the cell that slot i names stays -/
def GP (i : Nat) : List PyData → List DV → List Cell → List Cell → Prop := fun items δ _ st => match δ[i]? with
  | some (.ptr k) => st[k]? = some (.mu items)
  | _ => False

section
variable {R : Rx} {X : Cx} {W : WX} {k : Nat}
/-! ### sources -/
def rngD (lo : Int) (n : Nat) : List PyData := (List.range n).map fun i => .int (lo + (i : Nat))
theorem rngD_len {lo : Int} {n : Nat} : (rngD lo n).length = n := by simp [rngD]
theorem wk_rng {w : Wd} {lo : Int} {n : Nat} {G : List Cell → Prop} : Wk R w (Itr lo n) (rngD lo n) G where
  go := fun i d w' H st _ _ _ e => by
    have hi : i < n := by
      have h := (List.getElem?_eq_some_iff.mp e).1
      rw [rngD_len] at h; exact h
    refine ⟨hi, fun x H' y => ?_⟩
    obtain ⟨rfl, rfl⟩ := y
    refine ⟨rfl, ?_⟩
    have q : d = .int (lo + (i : Nat)) := by
      simp only [rngD, List.getElem?_map, List.getElem?_range hi, Option.map_some, Option.some.injEq] at e
      exact e.symm
    rw [q]; exact .int _
  stop := fun w' H st _ _ _ => by
    show n ≤ (rngD lo n).length
    rw [rngD_len]; exact Nat.le_refl _
def InRg (i : Int) : Prop := -(2 ^ 62) ≤ i ∧ i < 2 ^ 62
open Classical in
noncomputable def iRange1 (f : AF) : IF := fun δ st => (f δ st).bd fun vs st1 => match vs with
  | [.dat (.int j)] => if InRg j then .ok (rngD 0 j.toNat) st1 else .bad
  | _ => .bad
open Classical in
noncomputable def iRange2 (f : AF) : IF := fun δ st => (f δ st).bd fun vs st1 => match vs with
  | [.dat (.int i), .dat (.int j)] => if InRg i ∧ InRg j then .ok (rngD i (j - i).toNat) st1 else .bad
  | _ => .bad
theorem PostI.mono {G : List PyData → List DV → List Cell → List Cell → Prop} {w w' : Wd} {σ : St} {δ : List DV} {Rk : It → Hp → Prop} (l : w.le w') : ∀ {r : ER (List PyData)}, PostI R W G w σ δ Rk r → PostI R W G w' σ δ Rk r
  | .ok _ _, h => fun J H' w'' l' => h J H' w'' (l.trans l')
  | .rs _ _, h => fun H' w'' l' => h H' w'' (l.trans l')
  | .bad, h => h.elim
theorem Mt.seqI {α ι : Type} {G : List PyData → List DV → List Cell → List Cell → Prop} {rel : Wd → ι → α → Prop} {t : St → Hp → (ι → Hp → Prop) → Prop} {f : FF α} {g : α → List Cell → ER (List PyData)} {w : Wd} {H : Hp} {σ : St} {δ : List DV} {st : List Cell} {Rk : It → Hp → Prop} {Q1 : ι → Hp → Prop}
    (h : Mt R W rel t f) (S : Sto R w H st) (L : SlR R w σ δ) (P : PostI R W G w σ δ Rk ((f δ st).bd g))
    (kk : ∀ v st1 x H1 w1, w.le w1 → Sto R w1 H1 st1 → rel w1 x v → PostI R W G w1 σ δ Rk (g v st1) → Q1 x H1) : t σ H Q1 := by
  refine h w H σ δ st Q1 S L ?_
  cases e : f δ st with
  | ok v st1 =>
    rw [e] at P
    exact fun x H1 w1 l S1 r => kk v st1 x H1 w1 l S1 r (PostI.mono l P)
  | rs c st1 => rw [e] at P; exact P
  | bad => rw [e] at P; exact P.elim
theorem di_range1 {tg a : Expr} {f : AF} {p pos : Pos} (hm : X.mg "range" = none) (h : DA R X W [a] f) (hg : Gl X "range" := by rfl) (hs : starEach [a] X.env = [(false, eval a X.env)] := by rfl) : DI R X W G0 tg (.Call (.Name "range" p) [a] [] pos) (iRange1 f) := by
  obtain ⟨t, pa, m⟩ := h
  refine ⟨_, pi_range1 hg hm pa hs, fun w H σ δ st Rk S L P => ?_⟩
  refine m.seqI S L P fun vs st1 xs H1 w1 l1 S1 r1 P1 => ?_
  split at P1
  · rename_i j
    cases r1 with
    | cons q r2 =>
      cases r2
      cases q
      split at P1
      · rename_i hj
        exact ⟨j, rfl, hj.1, hj.2, P1 _ H1 w1 (Wd.le.refl _) S1 wk_rng⟩
      · exact P1.elim
  · exact P1.elim
theorem di_range2 {tg a b : Expr} {f : AF} {p pos : Pos} (hm : X.mg "range" = none) (h : DA R X W [a, b] f) (hg : Gl X "range" := by rfl) (hs : starEach [a, b] X.env = [(false, eval a X.env), (false, eval b X.env)] := by rfl) (hs2 : starEach [b] X.env = [(false, eval b X.env)] := by rfl) : DI R X W G0 tg (.Call (.Name "range" p) [a, b] [] pos) (iRange2 f) := by
  obtain ⟨t, pa, m⟩ := h
  refine ⟨_, pi_range2 hg hm pa hs hs2, fun w H σ δ st Rk S L P => ?_⟩
  refine m.seqI S L P fun vs st1 xs H1 w1 l1 S1 r1 P1 => ?_
  split at P1
  · rename_i i j
    cases r1 with
    | cons q r2 =>
      cases r2 with
      | cons q2 r3 =>
        cases r3
        cases q
        cases q2
        split at P1
        · rename_i hj
          exact ⟨i, j, rfl, ⟨hj.1.1, hj.1.2, hj.2.1, hj.2.2⟩, P1 _ H1 w1 (Wd.le.refl _) S1 wk_rng⟩
        · exact P1.elim
  · exact P1.elim
theorem wk_lst {w : Wd} {K : PySem.W.Frag} {a : Addr} {items : List PyData} {G : List Cell → Prop} (hs : ∀ w' H st, w.le w' → Sto R w' H st → G st → ∃ vs, SqL K H a vs ∧ DtAll R.K w'.F vs items) : Wk R w (Itl K a) items G where
  go := fun i d w' H st l S g e => by
    obtain ⟨vs, h1, ha⟩ := hs w' H st l S g
    obtain ⟨x, ex, hx⟩ := ha.get e
    refine ⟨⟨vs, x, h1, ex⟩, fun y H' yl => ?_⟩
    obtain ⟨rfl, q⟩ := yl
    have z := q vs h1
    rw [ex] at z
    cases z
    exact ⟨rfl, hx⟩
  stop := fun w' H st l S g => by
    obtain ⟨vs, h1, ha⟩ := hs w' H st l S g
    exact ⟨vs, h1, by rw [ha.length]; exact Nat.le_refl _⟩
theorem wk_tup {w : Wd} {K : PySem.W.Frag} {a : Addr} {vs : List V} {items : List PyData} {G : List Cell → Prop} (hs : ∀ w' H st, w.le w' → Sto R w' H st → SqT K H a vs) (ha : DtAll R.K w.F vs items) : Wk R w (Itt K a) items G where
  go := fun i d w' H st l S g e => by
    obtain ⟨x, ex, hx⟩ := ha.get e
    refine ⟨⟨vs, x, hs w' H st l S, ex⟩, fun y H' yl => ?_⟩
    obtain ⟨rfl, q⟩ := yl
    have z := q vs (hs w' _ st l S)
    rw [ex] at z
    cases z
    exact ⟨rfl, hx.mono l.1⟩
  stop := fun w' H st l S g => ⟨vs, hs w' H st l S, by rw [ha.length]; exact Nat.le_refl _⟩
/-- a list that never changes -/
def iList (f : EF) : IF := fun δ st => (f δ st).bd fun v st1 => match v with
  | .dat (.list xs) => .ok xs st1
  | .scr ns => .ok (ns.map PyData.int) st1
  | _ => .bad
theorem di_list (C : Ct R X W k) {tg e : Expr} {f : EF} (h : DE R X W e f) : DI R X W G0 tg e (iList f) := by
  obtain ⟨t, p, m⟩ := h
  refine ⟨_, pi_list p, fun w H σ δ st Rk S L P => ?_⟩
  refine m.seqI S L P fun v st1 x H1 w1 l1 S1 r1 P1 => ?_
  rw [C.hK]
  split at P1
  · rename_i xs
    cases r1 with
    | lst hs ha => exact ⟨_, rfl, ⟨_, SqL.of (S1.sub _ _ hs)⟩, P1 _ H1 w1 (Wd.le.refl _) S1 (wk_lst fun w' H' st' l S' _ => ⟨_, SqL.of (S'.sub _ _ (l.1 _ _ hs)), ha.mono l.1⟩)⟩
  · rename_i ns
    obtain ⟨a, rfl, hs⟩ := r1
    exact ⟨a, rfl, ⟨_, S1.sub.seq hs⟩, P1 _ H1 w1 (Wd.le.refl _) S1 (wk_lst fun w' H' st' l S' _ => ⟨_, S'.sub.seq (l.1.seq hs), DtAll.ints ns⟩)⟩
  · exact P1.elim
def iTup (f : EF) : IF := fun δ st => (f δ st).bd fun v st1 => match v with
  | .dat (.tuple xs) => .ok xs st1
  | _ => .bad
theorem di_tup (C : Ct R X W k) {tg e : Expr} {f : EF} (h : DE R X W e f) : DI R X W G0 tg e (iTup f) := by
  obtain ⟨t, p, m⟩ := h
  refine ⟨_, pi_tup p, fun w H σ δ st Rk S L P => ?_⟩
  refine m.seqI S L P fun v st1 x H1 w1 l1 S1 r1 P1 => ?_
  rw [C.hK]
  split at P1
  · rename_i xs
    cases r1 with
    | tup hs ha => exact ⟨_, rfl, ⟨_, sqT_mono S1.sub hs⟩, P1 _ H1 w1 (Wd.le.refl _) S1 (wk_tup (fun w' H' st' l S' => sqT_mono S'.sub (sqT_mono l.1 hs)) ha)⟩
  · exact P1.elim
/-- a list of its own, by slot i: it must stay as it is meanwhile -/
def iPtr (i : Nat) : IF := fun δ st => match δ[i]? with
  | some (.ptr k) => (match st[k]? with
    | some (.mu xs) => .ok xs st
    | _ => .bad)
  | _ => .bad
theorem di_ptr (C : Ct R X W k) (i : Nat) {tg : Expr} {x : Str} {pos : Pos} (hN : X.N[i]? = some x := by rfl) (hv : Vis X.env.scope x := by first | exact Or.inl rfl | exact Or.inr (Or.inl rfl) | exact Or.inr (Or.inr rfl)) (hd : (x == ("__debug__" : Str)) = false := by decide)
    (hcd : (x == ("__classdict__" : Str)) = false := by decide) : DI R X W (GP i) tg (.Name x pos) (iPtr i) := by
  refine ⟨_, pi_list (pe_var hN hv hd hcd), fun w H σ δ st Rk S L P => ?_⟩
  unfold iPtr at P
  cases e : δ[i]? with
  | none => rw [e] at P; exact (show False from P).elim
  | some v =>
    rw [e] at P
    cases v with
    | ptr kk =>
      dsimp only at P
      cases e2 : st[kk]? with
      | none => rw [e2] at P; exact (show False from P).elim
      | some c =>
        rw [e2] at P
        cases c with
        | mu xs =>
          dsimp only at P
          rcases L.get e with q | ⟨y, q, a, ea, rfl⟩
          · cases q
          obtain ⟨a', vs, ea', hH, ha, _⟩ := S.lst e2
          rw [ea] at ea'; cases ea'
          rw [C.hK]
          refine ⟨.ref a, q, a, rfl, ⟨vs, SqL.of hH⟩, P _ H w (Wd.le.refl _) S (wk_lst fun w' H' st' l S' g => ?_)⟩
          have g' : st'[kk]? = some (.mu xs) := by
            unfold GP at g
            rw [e] at g
            exact g
          obtain ⟨a2, vs2, ea2, hH2, ha2, _⟩ := S'.lst g'
          rw [prefix_get l.2 ea] at ea2; cases ea2
          exact ⟨vs2, SqL.of hH2, ha2⟩
        | _ => exact (show False from P).elim
    | _ => exact (show False from P).elim

/-! ### for -/
open Classical in
/-- the items one by one; G must hold of the store at every turn -/
noncomputable def forG (G : List Cell → Prop) (g : PyData → List DV → Option (List DV)) (f : SF) : List PyData → SF
  | [], δ, st => if G st then .nx δ st else .bad
  | d :: ds, δ, st => if G st then (match g d δ with
    | none => .bad
    | some δ0 => match f δ0 st with
      | .nx δ' st' => forG G g f ds δ' st'
      | .ct δ' st' => forG G g f ds δ' st'
      | .br δ' st' => .nx δ' st'
      | .rt v st' => .rt v st'
      | .rs c δ' st' => .rs c δ' st'
      | .bad => .bad) else .bad
/-- .. where nothing is asked of the store -/
theorem forG_any (g : PyData → List DV → Option (List DV)) (f : SF) : ∀ (ds : List PyData) (δ : List DV) (st : List Cell), forG AnyG g f ds δ st = forL g f ds δ st
  | [], δ, st => if_pos trivial
  | d :: ds, δ, st => by
    unfold forG forL
    rw [if_pos (show AnyG st from trivial)]
    cases g d δ with
    | none => rfl
    | some δ0 =>
      dsimp only
      cases f δ0 st with
      | nx δ' st' => exact forG_any g f ds δ' st'
      | ct δ' st' => exact forG_any g f ds δ' st'
      | _ => rfl
theorem forG_at {G : List Cell → Prop} {g : PyData → List DV → Option (List DV)} {f : SF} {ds : List PyData} {δ : List DV} {st : List Cell} {w : Wd} {D : Ends} (P : PostS R W w D (forG G g f ds δ st)) : G st := by
  cases ds with
  | nil =>
    unfold forG at P
    by_cases h : G st
    · exact h
    · rw [if_neg h] at P; exact P.elim
  | cons d ds =>
    unfold forG at P
    by_cases h : G st
    · exact h
    · rw [if_neg h] at P; exact P.elim
theorem PostS.turn {w w' : Wd} {D : Ends} {G : List Cell → Prop} {g : PyData → List DV → Option (List DV)} {f : SF} {d : PyData} {ds : List PyData} {δ δ0 : List DV} {st : List Cell} {Nx : St → Hp → Prop} (hg : g d δ = some δ0) (P : PostS R W w D (forG G g f (d :: ds) δ st))
    (kk : ∀ δ' st', PostS R W w D (forG G g f ds δ' st') → ∀ σ' H' w', w.le w' → Sto R w' H' st' → SlR R w' σ' δ' → Nx σ' H') : PostS R W w { D with nx := Nx, ct := Nx, bk := D.nx } (f δ0 st) := by
  have hG := forG_at P
  unfold forG at P
  rw [if_pos hG, hg] at P
  dsimp only at P
  cases e : f δ0 st with
  | nx δ' st' => rw [e] at P; exact kk δ' st' P
  | ct δ' st' => rw [e] at P; exact kk δ' st' P
  | br δ' st' => rw [e] at P; exact P
  | rt v st' => rw [e] at P; exact P
  | rs c δ' st' => rw [e] at P; exact P
  | bad => rw [e] at P; exact P.elim
theorem for_wk {G : List Cell → Prop} {J : It} {items : List PyData} {g : TG} {h : PyData → List DV → Option (List DV)} {tb : TS} {f : SF} (hg : TgMt R g h) (hb : MtS R W tb f) {w : Wd} {H : Hp} {σ : St} {δ : List DV} {st : List Cell} {D : Ends} (wk : Wk R w J items G) (S : Sto R w H st) (L : SlR R w σ δ)
    (P : PostS R W w D (forG G h f items δ st)) :
    ∃ Wv : Nat → Nat → St → Hp → Prop, (∃ m, Wv 0 m σ H) ∧ ∀ i m σ H, Wv i m σ H → (J.stop i H ∧ D.nx σ H) ∨ (J.go i H ∧ ∃ Nx : St → Hp → Prop, (∀ σ' H', Nx σ' H' → ∃ m', m' < m ∧ Wv (i + 1) m' σ' H') ∧ ∀ x H', J.yld i H x H' → g x σ H' fun σ2 H2 => tb { D with nx := Nx, ct := Nx, bk := D.nx } σ2 H2) := by
  refine ⟨fun i m σ H => m = items.length - i ∧ i ≤ items.length ∧ ∃ w' δ' st', w.le w' ∧ Sto R w' H st' ∧ SlR R w' σ δ' ∧ PostS R W w' D (forG G h f (items.drop i) δ' st'), ⟨_, rfl, Nat.zero_le _, w, δ, st, Wd.le.refl _, S, L, P⟩, ?_⟩
  rintro i m σ1 H1 ⟨rfl, hi, w1, δ1, st1, l1, S1, L1, P1⟩
  have hG := forG_at P1
  by_cases hlt : i < items.length
  · rw [List.drop_eq_getElem_cons hlt] at P1
    obtain ⟨go, yl⟩ := wk.go i _ w1 H1 st1 l1 S1 hG (List.getElem?_eq_getElem hlt)
    refine .inr ⟨go, fun σ' H' => i + 1 ≤ items.length ∧ ∃ w' δ' st', w.le w' ∧ Sto R w' H' st' ∧ SlR R w' σ' δ' ∧ PostS R W w' D (forG G h f (items.drop (i + 1)) δ' st'), fun σ' H' q => ⟨_, ?_, rfl, q⟩, fun x H' y => ?_⟩
    · omega
    · obtain ⟨rfl, hx⟩ := yl x H' y
      cases e : h items[i] δ1 with
      | none =>
        unfold forG at P1
        rw [if_pos hG, e] at P1
        exact P1.elim
      | some δ0 =>
        refine hg w1 _ st1 _ _ σ1 δ1 δ0 _ S1 hx L1 e fun σ2 L2 => ?_
        exact hb w1 _ σ2 δ0 st1 _ S1 L2 (PostS.turn (w' := w1) e P1 fun δ' st' P' σ' H' w' l' S' L' => ⟨hlt, w', δ', st', l1.trans l', S', L', PostS.mono l' P'⟩)
  · have e : i = items.length := by omega
    subst e
    rw [List.drop_length] at P1
    refine .inl ⟨wk.stop w1 H1 st1 l1 S1 hG, ?_⟩
    unfold forG at P1
    rw [if_pos hG] at P1
    exact P1 σ1 H1 w1 (Wd.le.refl _) S1 L1
def sFor (h : PyData → List DV → Option (List DV)) (fi : IF) (f : SF) : SF := fun δ st => (fi δ st).sr δ fun items st1 => forL h f items δ st1
noncomputable def sForP (i : Nat) (h : PyData → List DV → Option (List DV)) (fi : IF) (f : SF) : SF := fun δ st => (fi δ st).sr δ fun items st1 => forG (GP i items δ st1) h f items δ st1
theorem ds_forG (C : Ct R X W k) {G : List PyData → List DV → List Cell → List Cell → Prop} {tg iter : Expr} {body : List Stmt} {pos : Pos} {fi : IF} {f : SF} {g : TG} {h : PyData → List DV → Option (List DV)} (hi : DI R X W G tg iter fi) (pg : PG X tg g) (hg : TgMt R g h) (hb : DSs R X W body f)
    (hps : ∀ wi t, PI X tg iter wi → PSs X body t → PS X (.For tg iter body [] pos) (tFor wi g t)) :
    DS R X W (.For tg iter body [] pos) (fun δ st => (fi δ st).sr δ fun items st1 => forG (G items δ st1) h f items δ st1) := by
  obtain ⟨wi, pi, mi⟩ := hi
  obtain ⟨t, p, m⟩ := hb
  refine ⟨_, hps wi t pi p, fun w H σ δ st D S L P => ?_⟩
  refine mi w H σ δ st _ S L ?_
  dsimp only at P
  cases e : fi δ st with
  | ok items st1 =>
    rw [e] at P
    exact fun J H' w' l S' wk => for_wk hg m wk S' (L.mono l) (PostS.mono l P)
  | rs c st1 =>
    rw [e] at P
    exact fun H' w' l S' => P σ H' w' l S' (L.mono l)
  | bad => rw [e] at P; exact P.elim
/-- for x in .. -/
theorem ds_for (C : Ct R X W k) {i : Nat} {x : Str} {tp pos : Pos} {iter : Expr} {body : List Stmt} {fi : IF} {f : SF} (hi : X.N[i]? = some x) (hx : Loc X.env.scope x) (di : DI R X W G0 (.Name x tp) iter fi) (hb : DSs R X W body f)
    (hf : X.fn x = true ∨ X.env.scope.names.lookup x = some .local := by first | exact .inl rfl | exact .inr rfl | assumption) (hs : ∀ y, foldedSetIterable iter X.env y = pure y := by intro _; rfl) : DS R X W (.For (.Name x tp) iter body [] pos) (sFor (tgN i) fi f) := by
  have q := ds_forG C (pos := pos) di (pg_name C.nd hi hx hf) (tgMt_name i) hb (fun wi t pi p => ps_for C.own C.calm pi (pg_name C.nd hi hx hf) p hs)
  have e : (fun δ st => (fi δ st).sr δ fun items st1 => forG (G0 items δ st1) (tgN i) f items δ st1) = sFor (tgN i) fi f := by
    funext δ st
    unfold sFor
    congr 1
    funext items st1
    exact forG_any _ _ _ _ _
  rw [e] at q
  exact q
theorem ds_forP (C : Ct R X W k) {i j : Nat} {x : Str} {tp pos : Pos} {iter : Expr} {body : List Stmt} {fi : IF} {f : SF} (hi : X.N[i]? = some x) (hx : Loc X.env.scope x) (di : DI R X W (GP j) (.Name x tp) iter fi) (hb : DSs R X W body f)
    (hf : X.fn x = true ∨ X.env.scope.names.lookup x = some .local := by first | exact .inl rfl | exact .inr rfl | assumption) (hs : ∀ y, foldedSetIterable iter X.env y = pure y := by intro _; rfl) : DS R X W (.For (.Name x tp) iter body [] pos) (sForP j (tgN i) fi f) :=
  ds_forG C (pos := pos) di (pg_name C.nd hi hx hf) (tgMt_name i) hb (fun wi t pi p => ps_for C.own C.calm pi (pg_name C.nd hi hx hf) p hs)
/-- for a, b in .. -/
theorem ds_forT (C : Ct R X W k) {is : List Nat} {es : List Expr} {kk : Nat} {tp pos : Pos} {iter : Expr} {body : List Stmt} {fi : IF} {f : SF} (hn : NmT X es is) (di : DI R X W G0 (.Tuple es kk tp) iter fi) (hb : DSs R X W body f)
    (hl : (assignEach es X.env).length = is.length := by rfl) (hst : (assignEach es X.env).findIdx? (·.1) = none := by rfl) (hs : ∀ y, foldedSetIterable iter X.env y = pure y := by intro _; rfl) : DS R X W (.For (.Tuple es kk tp) iter body [] pos) (sFor (tgT is) fi f) := by
  have q := ds_forG C (pos := pos) di (pg_tup C.calm (hn.pgs C.nd) hl hst) (tgMt_tup C.hK is) hb (fun wi t pi p => ps_for C.own C.calm pi (pg_tup C.calm (hn.pgs C.nd) hl hst) p hs)
  have e : (fun δ st => (fi δ st).sr δ fun items st1 => forG (G0 items δ st1) (tgT is) f items δ st1) = sFor (tgT is) fi f := by
    funext δ st
    unfold sFor
    congr 1
    funext items st1
    exact forG_any _ _ _ _ _
  rw [e] at q
  exact q
/-! ### while -/
def whileN (c : TF) (f : SF) : Nat → SF
  | 0, _, _ => .bad
  | n + 1, δ, st => (c δ st).sr δ fun b st1 => if b = true then (match f δ st1 with
    | .nx δ' st' => whileN c f n δ' st'
    | .ct δ' st' => whileN c f n δ' st'
    | .br δ' st' => .nx δ' st'
    | .rt v st' => .rt v st'
    | .rs e δ' st' => .rs e δ' st'
    | .bad => .bad) else .nx δ st1
theorem ds_while (C : Ct R X W k) (n : Nat) {c : Expr} {body : List Stmt} {fc : TF} {f : SF} {pos : Pos} (hc : DT R X W c fc) (hb : DSs R X W body f) : DS R X W (.While c body [] pos) (whileN fc f n) := by
  obtain ⟨tc, pc, mc⟩ := hc
  obtain ⟨t, p, m⟩ := hb
  refine ⟨_, ps_while C.own pc p, fun w H σ δ st D S L P => ?_⟩
  refine ⟨fun n σ H => ∃ w δ st, Sto R w H st ∧ SlR R w σ δ ∧ PostS R W w D (whileN fc f n δ st), ⟨n, w, δ, st, S, L, P⟩, ?_⟩
  rintro n σ H ⟨w, δ, st, S, L, P⟩
  cases n with
  | zero => exact P.elim
  | succ n =>
    refine mc.seqS S L P fun b st1 x H1 w1 l1 S1 L1 r1 P1 => ?_
    cases r1
    cases b with
    | false => exact P1 σ H1 w1 (Wd.le.refl _) S1 L1
    | true =>
      refine ⟨fun σ' H' => ∃ w δ st, Sto R w H' st ∧ SlR R w σ' δ ∧ PostS R W w D (whileN fc f n δ st), fun σ' H' q => ⟨n, Nat.lt_succ_self _, q⟩, ?_⟩
      refine m w1 H1 σ δ st1 _ S1 L1 ?_
      have P2 : PostS R W w1 D (match f δ st1 with
        | .nx δ' st' => whileN fc f n δ' st'
        | .ct δ' st' => whileN fc f n δ' st'
        | .br δ' st' => .nx δ' st'
        | .rt v st' => .rt v st'
        | .rs e δ' st' => .rs e δ' st'
        | .bad => .bad) := P1
      cases e : f δ st1 with
      | nx δ' st' => rw [e] at P2; exact fun σ' H' w' l S' L' => ⟨w', δ', st', S', L', PostS.mono l P2⟩
      | ct δ' st' => rw [e] at P2; exact fun σ' H' w' l S' L' => ⟨w', δ', st', S', L', PostS.mono l P2⟩
      | br δ' st' => rw [e] at P2; exact P2
      | rt v st' => rw [e] at P2; exact P2
      | rs c δ' st' => rw [e] at P2; exact P2
      | bad => rw [e] at P2; exact P2.elim
end
end WB

set_option maxRecDepth 100000
set_option maxHeartbeats 4000000
namespace WB
open PySem PySem.Spec PyProof.Rows L2

/-- the weakest reading that f serves -/
def tOf {ι α : Type} (R : Rx) (W : WX) (rel : Wd → ι → α → Prop) (f : FF α) : St → Hp → (ι → Hp → Prop) → Prop := fun σ H Q => ∃ w δ st, Sto R w H st ∧ SlR R w σ δ ∧ Post R W w σ rel Q (f δ st)
theorem mt_of {ι α : Type} {R : Rx} {W : WX} {rel : Wd → ι → α → Prop} {f : FF α} : Mt R W rel (tOf R W rel f) f := fun w H σ δ st Q S L P => ⟨w, δ, st, S, L, P⟩
theorem DE.can {R : Rx} {X : Cx} {W : WX} {e : Expr} {f : EF} (h : DE R X W e f) : PE X e (tOf R W (DvR R) f) := by
  obtain ⟨t, p, m⟩ := h
  exact ⟨fun pins s σ H Q I ⟨w, δ, st, S, L, P⟩ => p.run pins s σ H Q I (m w H σ δ st Q S L P)⟩
theorem DT.can {R : Rx} {X : Cx} {W : WX} {e : Expr} {f : TF} (h : DT R X W e f) : PT X e (tOf R W EqR f) := by
  obtain ⟨t, p, m⟩ := h
  exact ⟨fun pins s σ H Q I ⟨w, δ, st, S, L, P⟩ => p.run pins s σ H Q I (m w H σ δ st Q S L P)⟩
/-- nothing is let out -/
abbrev W0 : WX := fun _ _ _ _ => False
theorem takesB {X : Cx} : Takes X W0 := fun _ _ x => by
  obtain ⟨_, _, _, _, _, _, _, _, _, _, _, _, _, _, _, _, z⟩ := x
  exact z.elim
theorem Ct.blk {R : Rx} {X : Cx} {W : WX} {k : Nat} (C : Ct R X W k) (s : Shared) (H : Hp) (scope : Scope) (env : Env) (fp : List Addr) : Ct R (X.blk s H scope env fp) W0 k := ⟨C.hK, C.calm, C.room, takesB, PassesOwn.never, C.nd⟩

/-- the slots of the block's own names forgotten -/
def wipeD (δ : List DV) : List Nat → List DV
  | [] => δ
  | v :: vs => (wipeD δ vs).set v .un
theorem SlR.wipe {R : Rx} {w : Wd} {σ : St} {δ : List DV} (h : SlR R w σ δ) : ∀ vs : List Nat, SlR R w (wipe σ vs) (wipeD δ vs)
  | [] => h
  | v :: vs => (SlR.wipe h vs).setUn v
theorem wipe_at {σ : St} {i : Nat} : ∀ {vs : List Nat}, (wipe σ vs)[i]? = if i ∈ vs then σ[i]?.map (fun _ => none) else σ[i]?
  | [] => by simp [wipe]
  | v :: vs => by
    unfold wipe
    by_cases hi : v = i
    · subst hi
      rw [if_pos List.mem_cons_self, List.getElem?_set]
      simp only [↓reduceIte]
      have hl := wipe_length σ vs
      by_cases hv : v < σ.length
      · rw [if_pos (by omega), List.getElem?_eq_getElem hv]; rfl
      · rw [if_neg (by omega), List.getElem?_eq_none (by omega)]; rfl
    · rw [List.getElem?_set_ne hi, wipe_at]
      have : i ∈ v :: vs ↔ i ∈ vs := by simp [List.mem_cons, Ne.symm hi]
      simp only [this]
theorem wipe_set {σ : St} {i : Nat} {v : Option V} {vs : List Nat} (h : i ∈ vs) : wipe (σ.set i v) vs = wipe σ vs := by
  apply List.ext_getElem?
  intro j
  rw [wipe_at, wipe_at]
  by_cases hj : j ∈ vs
  · rw [if_pos hj, if_pos hj]
    by_cases hij : i = j
    · subst hij
      rw [List.getElem?_set]
      simp only [↓reduceIte]
      by_cases hv : i < σ.length
      · rw [if_pos hv, List.getElem?_eq_getElem hv]; rfl
      · rw [if_neg hv, List.getElem?_eq_none (by omega)]
    · rw [List.getElem?_set_ne hij]
  · rw [if_neg hj, if_neg hj]
    rw [List.getElem?_set_ne (fun e : i = j => hj (e ▸ h))]
theorem wipe_wipe {σ : St} {vs : List Nat} : wipe (wipe σ vs) vs = wipe σ vs := by
  apply List.ext_getElem?
  intro j
  rw [wipe_at, wipe_at]
  by_cases hj : j ∈ vs
  · rw [if_pos hj, if_pos hj]
    cases σ[j]? <;> rfl
  · rw [if_neg hj, if_neg hj]
/-- a target of a comprehension: it stores into the block's own slots alone -/
def TgW (R : Rx) (vs : List Nat) (g : TG) (h : PyData → List DV → Option (List DV)) : Prop := ∀ (w : Wd) (H : Hp) (st : List Cell) (x : V) (d : PyData) (σ : St) (δ δ0 : List DV) (Q : St → Hp → Prop), Sto R w H st → Dt R.K w.F x d → SlR R w σ δ → h d δ = some δ0 → (∀ σ', SlR R w σ' δ0 → wipe σ' vs = wipe σ vs → Q σ' H) → g x σ H Q
section
variable {R : Rx} {X : Cx} {W : WX} {k : Nat}
theorem tgW_name {vs : List Nat} (i : Nat) (hi : i ∈ vs) : TgW R vs (gName i) (tgN i) := fun w H st x d σ δ δ0 Q S h L e q => by
  cases e
  exact q _ (L.set (d := .dat d) h i) (wipe_set hi)
theorem gAll_okW {vs : List Nat} {w : Wd} {H : Hp} {Q : St → Hp → Prop} : ∀ {is : List Nat} {xs : List V} {ds : List PyData} {σ : St} {δ : List DV}, (∀ i ∈ is, i ∈ vs) → is.length = ds.length → DtAll R.K w.F xs ds → SlR R w σ δ → (∀ σ', SlR R w σ' (setAll is ds δ) → wipe σ' vs = wipe σ vs → Q σ' H) → gAll is xs σ H Q
  | [], _, [], σ, δ, _, _, .nil, L, q => ⟨rfl, q σ L rfl⟩
  | i :: is, _, d :: ds, σ, δ, hi, hl, .cons (v := v) (vs := ws) h r, L, q => ⟨v, ws, rfl, gAll_okW (fun j hj => hi j (List.mem_cons_of_mem _ hj)) (by simpa using hl) r (L.set (R := R) (d := .dat d) h i) fun σ' L' e => q σ' L' (e.trans (wipe_set (hi i List.mem_cons_self)))⟩
theorem tgW_tup {K : PySem.W.Frag} (hK : K = R.K) {vs : List Nat} (is : List Nat) (hi : ∀ i ∈ is, i ∈ vs) : TgW R vs (gTup K is.length (gAll is)) (tgT is) := fun w H st x d σ δ δ0 Q S h L e q => by
  unfold tgT at e
  cases d with
  | tuple ds =>
    dsimp only at e
    by_cases hn : ds.length = is.length
    · rw [if_pos hn] at e
      cases e
      cases h with
      | tup hs ha =>
        subst hK
        exact ⟨_, _, rfl, sqT_mono S.sub hs, ha.length.trans hn, gAll_okW hi hn.symm ha L q⟩
    · rw [if_neg hn] at e; cases e
  | _ => cases e

/-- the items one by one; the new list is the store's last cell meanwhile, at n -/
noncomputable def lcG (G : List Cell → Prop) (h : PyData → List DV → Option (List DV)) (ft : TF) (fe : EF) (n : Nat) : List PyData → List PyData → List DV → List Cell → ER (List PyData)
  | [], acc, _, st => open Classical in if G st then .ok acc st else .bad
  | d :: ds, acc, δ, st => open Classical in if G st then (match h d δ with
    | none => .bad
    | some δ0 => (ft δ0 (st ++ [.mu acc])).bd fun b st1 => if b = true then (fe δ0 st1).bd fun v st2 => (match v, st2[n]? with
        | .dat y, some (.mu acc') => if acc'.length < 1000000 then lcG G h ft fe n ds (acc' ++ [y]) δ (st2.take n) else .bad
        | _, _ => .bad)
      else (match st1[n]? with
        | some (.mu acc') => lcG G h ft fe n ds acc' δ (st1.take n)
        | _ => .bad)) else .bad
theorem lcG_at {G : List Cell → Prop} {h : PyData → List DV → Option (List DV)} {ft : TF} {fe : EF} {n : Nat} {ds acc : List PyData} {δ : List DV} {st : List Cell} (ne : lcG G h ft fe n ds acc δ st ≠ .bad) : G st := by
  apply Classical.byContradiction
  intro hG
  cases ds with
  | nil => unfold lcG at ne; rw [if_neg hG] at ne; exact ne rfl
  | cons d ds => unfold lcG at ne; rw [if_neg hG] at ne; exact ne rfl
/-- no error is let out -/
def ER.bx {α β : Type} (r : ER α) (g : α → List Cell → ER β) : ER β := match r with
  | .ok v st => g v st
  | _ => .bad
/-- a comprehension's list -/
noncomputable def dLcG (G : List PyData → List DV → List Cell → List Cell → Prop) (vs : List Nat) (h : PyData → List DV → Option (List DV)) (fi : IF) (ft : TF) (fe : EF) : EF := fun δ st => (fi δ st).bd fun items st1 =>
  (lcG (G items δ st1) h ft fe st1.length items [] (wipeD δ vs) st1).bx fun ys st2 => .ok (.dat (.list ys)) st2
theorem sto_swap {w : Wd} {H : Hp} {st : List Cell} {n : Nat} {acc : List PyData} (S : Sto R w H st) (hn : st[n]? = some (.mu acc)) : Sto R ⟨w.F, w.as.take (n + 1)⟩ H (st.take n ++ [.mu acc]) := by
  have q := S.drop (n + 1)
  have e : st.take (n + 1) = st.take n ++ [.mu acc] := by rw [List.take_add_one, hn]; rfl
  rw [e] at q
  exact q
theorem prefix_take {α : Type} {l m : List α} {n : Nat} (h : l <+: m) (hl : l.length ≤ n) : l <+: m.take n := by
  obtain ⟨t, rfl⟩ := h
  rw [List.take_append]
  rw [List.take_of_length_le hl]
  exact List.prefix_append _ _
theorem prefix_take_eq {α : Type} {l m : List α} {n : Nat} (h : l <+: m) (hl : l.length = n) : m.take n = l := by
  obtain ⟨t, rfl⟩ := h
  rw [← hl, List.take_left]
theorem lc_wk {G : List Cell → Prop} {J : It} {items : List PyData} {vs : List Nat} {g : TG} {h : PyData → List DV → Option (List DV)} {tt : TT} {te : TE} {ft : TF} {fe : EF} (hg : TgW R vs g h) (ht : MtT R W0 tt ft) (he : MtE R W0 te fe) (hGt : ∀ st c, G st → G (st ++ [c]))
    {w : Wd} {H : Hp} {σ : St} {δ : List DV} {st : List Cell} {Dn : Addr} {Qd : Hp → Prop} (hD : H Dn = none) (wk : Wk R w J items G) (S : Sto R w H st) (L : SlR R w σ δ) {ys : List PyData} {st' : List Cell}
    (hr : lcG G h ft fe st.length items [] (wipeD δ vs) st = .ok ys st') (hq : ∀ H' w', w.le w' → Sto R w' H' st' → Dt R.K w'.F (.ref Dn) (.list ys) → Qd H') :
    ∃ Wv : Nat → Nat → Hp → Prop, (∃ m, Wv 0 m (upd H Dn (.lst []))) ∧ ∀ i m H, Wv i m H → (J.stop i H ∧ Qd H) ∨ (J.go i H ∧ ∃ Nx : Hp → Prop, (∀ H', Nx H' → ∃ m', m' < m ∧ Wv (i + 1) m' H') ∧
      ∀ x H', J.yld i H x H' → g x (wipe σ vs) H' fun σ2 H2 => wipe σ2 vs = wipe σ vs ∧ tt σ2 H2 fun b H3 =>
        if b = true then te σ2 H3 fun y H4 => ∃ acc, H4 Dn = some (.lst acc) ∧ acc.length < sizeLine ∧ Nx (upd H4 Dn (.lst (acc ++ [y]))) else Nx H3) := by
  have hlen := S.len
  let Inn : Nat → Hp → Prop := fun i H' => ∃ (F' : Hp) (acc : List PyData) (st1 : List Cell), Same w.F F' ∧ Sto R ⟨F', w.as ++ [Dn]⟩ H' (st1 ++ [.mu acc]) ∧ st1.length = st.length ∧ lcG G h ft fe st.length (items.drop i) acc (wipeD δ vs) st1 = .ok ys st'
  refine ⟨fun i m H' => m = items.length - i ∧ i ≤ items.length ∧ Inn i H', ⟨_, rfl, Nat.zero_le _, w.F, [], st, Same.refl _, (S.cell hD .nil).1, rfl, hr⟩, ?_⟩
  rintro i m H1 ⟨rfl, hi, F1, acc, st1, sF, S1, hl1, hr1⟩
  have l1 : w.le ⟨F1, w.as ++ [Dn]⟩ := ⟨sF, List.prefix_append _ _⟩
  have hG : G st1 := lcG_at (by rw [hr1]; intro z; cases z)
  have hG1 : G (st1 ++ [.mu acc]) := hGt _ _ hG
  by_cases hlt : i < items.length
  · rw [List.drop_eq_getElem_cons hlt] at hr1
    obtain ⟨go, yl⟩ := wk.go i _ _ H1 _ l1 S1 hG1 (List.getElem?_eq_getElem hlt)
    refine .inr ⟨go, Inn (i + 1), fun H' q => ⟨_, ?_, rfl, hlt, q⟩, fun x H' y => ?_⟩
    · omega
    · obtain ⟨rfl, hx⟩ := yl x H' y
      unfold lcG at hr1
      rw [if_pos hG] at hr1
      cases e : h items[i] (wipeD δ vs) with
      | none => rw [e] at hr1; cases hr1
      | some δ0 =>
        rw [e] at hr1
        dsimp only at hr1
        refine hg _ _ _ _ _ (wipe σ vs) (wipeD δ vs) δ0 _ S1 hx ((L.mono l1).wipe vs) e fun σ2 L2 ew => ⟨ew.trans wipe_wipe, ?_⟩
        refine ht _ _ σ2 δ0 _ _ S1 L2 ?_
        cases e1 : ft δ0 (st1 ++ [.mu acc]) with
        | bad => rw [e1] at hr1; cases hr1
        | rs c s2 => rw [e1] at hr1; cases hr1
        | ok b s2 =>
          rw [e1] at hr1
          intro b' H2 w2 l2 S2 eb
          cases eb
          have nx : ∀ (w3 : Wd) (H3 : Hp) (s3 : List Cell) (ac : List PyData), w2.le w3 → Sto R w3 H3 s3 → s3[st.length]? = some (.mu ac) → lcG G h ft fe st.length (items.drop (i + 1)) ac (wipeD δ vs) (s3.take st.length) = .ok ys st' → Inn (i + 1) H3 := fun w3 H3 s3 ac l3 S3 e3 q => by
            have l13 := l2.trans l3
            have et : w3.as.take (st.length + 1) = w.as ++ [Dn] := prefix_take_eq l13.2 (by rw [List.length_append, hlen]; rfl)
            have S4 := sto_swap S3 e3
            rw [et] at S4
            refine ⟨w3.F, ac, s3.take st.length, sF.trans l13.1, S4, ?_, q⟩
            have := (List.getElem?_eq_some_iff.mp e3).1
            rw [List.length_take]; omega
          have hr2 : (if b = true then (fe δ0 s2).bd fun v st2 => (match v, st2[st.length]? with
              | .dat y, some (.mu acc') => if acc'.length < 1000000 then lcG G h ft fe st.length (items.drop (i + 1)) (acc' ++ [y]) (wipeD δ vs) (st2.take st.length) else .bad
              | _, _ => .bad)
            else (match s2[st.length]? with
              | some (.mu acc') => lcG G h ft fe st.length (items.drop (i + 1)) acc' (wipeD δ vs) (s2.take st.length)
              | _ => .bad)) = .ok ys st' := hr1
          cases b with
          | false =>
            simp only [Bool.false_eq_true, ↓reduceIte] at hr2 ⊢
            split at hr2
            · rename_i ac e3
              exact nx w2 H2 s2 ac (Wd.le.refl _) S2 e3 hr2
            · cases hr2
          | true =>
            simp only [↓reduceIte] at hr2 ⊢
            refine he w2 H2 σ2 δ0 s2 _ S2 (L2.mono l2) ?_
            cases e2 : fe δ0 s2 with
            | bad => rw [e2] at hr2; cases hr2
            | rs c s3 => rw [e2] at hr2; cases hr2
            | ok v s3 =>
              rw [e2] at hr2
              have hr3 : (match v, s3[st.length]? with
                | .dat y, some (.mu acc') => if acc'.length < 1000000 then lcG G h ft fe st.length (items.drop (i + 1)) (acc' ++ [y]) (wipeD δ vs) (s3.take st.length) else .bad
                | _, _ => .bad) = .ok ys st' := hr2
              intro yv H3 w3 l3 S3 rv
              split at hr3
              · rename_i y ac e3
                split at hr3
                · rename_i hz
                  obtain ⟨a, ws, ea, hH, ha, Fa⟩ := S3.lst e3
                  have ea' : w3.as[st.length]? = some Dn := by
                    refine prefix_get (l2.trans l3).2 ?_
                    rw [List.getElem?_append_right (by rw [hlen]; exact Nat.le_refl _), hlen, Nat.sub_self]; rfl
                  rw [ea'] at ea; cases ea
                  refine ⟨ws, hH, ?_, ?_⟩
                  · rw [ha.length, sizeLine_eq]; omega
                  · have S5 := S3.put (ys := ac ++ [y]) (ws := ws ++ [yv]) e3 ea' (DtAll.append ha (.cons rv .nil))
                    have e5 : (s3.set st.length (.mu (ac ++ [y])))[st.length]? = some (.mu (ac ++ [y])) := by
                      rw [List.getElem?_set_self (List.getElem?_eq_some_iff.mp e3).1]
                    refine nx w3 _ _ (ac ++ [y]) l3 S5 e5 ?_
                    rw [List.take_set_of_le (Nat.le_refl _)]
                    exact hr3
                · cases hr3
              · cases hr3
  · have e : i = items.length := by omega
    subst e
    rw [List.drop_length] at hr1
    refine .inl ⟨wk.stop _ H1 _ l1 S1 hG1, ?_⟩
    unfold lcG at hr1
    rw [if_pos hG] at hr1
    cases hr1
    have e3 : (st' ++ [Cell.mu ys])[st'.length]? = some (.mu ys) := by
      rw [List.getElem?_append_right (Nat.le_refl _), Nat.sub_self]; rfl
    obtain ⟨a, ws, ea, hH, Fa, ha, S2, l2⟩ := S1.frz e3
    have ea' : (w.as ++ [Dn])[st'.length]? = some Dn := by
      rw [hl1, List.getElem?_append_right (by rw [hlen]; exact Nat.le_refl _), hlen, Nat.sub_self]; rfl
    have ea2 : (w.as ++ [Dn])[st'.length]? = some a := ea
    rw [ea'] at ea2; cases ea2
    have S3 := S2.drop st'.length
    have et : (w.as ++ [Dn]).take st'.length = w.as := prefix_take_eq (List.prefix_append _ _) (by rw [hl1]; exact hlen)
    have es : ((st' ++ [Cell.mu ys]).set st'.length (.fz ys)).take st'.length = st' := by
      rw [List.take_set_of_le (Nat.le_refl _), List.take_left]
    rw [es] at S3
    have S3' : Sto R ⟨upd F1 Dn (.lst ws), w.as⟩ H1 st' := by
      have z : (⟨upd F1 Dn (.lst ws), (w.as ++ [Dn]).take st'.length⟩ : Wd) = ⟨upd F1 Dn (.lst ws), w.as⟩ := by rw [et]
      rw [← z]; exact S3
    exact hq H1 ⟨upd F1 Dn (.lst ws), w.as⟩ ⟨sF.trans l2.1, List.prefix_refl _⟩ S3' (.lst upd_same (DtAll.mono l2.1 ha))
/-- the items one by one, nothing asked of the store -/
def lcL (h : PyData → List DV → Option (List DV)) (ft : TF) (fe : EF) (n : Nat) : List PyData → List PyData → List DV → List Cell → ER (List PyData)
  | [], acc, _, st => .ok acc st
  | d :: ds, acc, δ, st => (match h d δ with
    | none => .bad
    | some δ0 => (ft δ0 (st ++ [.mu acc])).bd fun b st1 => if b = true then (fe δ0 st1).bd fun v st2 => (match v, st2[n]? with
        | .dat y, some (.mu acc') => if acc'.length < 1000000 then lcL h ft fe n ds (acc' ++ [y]) δ (st2.take n) else .bad
        | _, _ => .bad)
      else (match st1[n]? with
        | some (.mu acc') => lcL h ft fe n ds acc' δ (st1.take n)
        | _ => .bad))
theorem lcG_any (h : PyData → List DV → Option (List DV)) (ft : TF) (fe : EF) (n : Nat) : ∀ (ds acc : List PyData) (δ : List DV) (st : List Cell), lcG AnyG h ft fe n ds acc δ st = lcL h ft fe n ds acc δ st
  | [], acc, δ, st => if_pos trivial
  | d :: ds, acc, δ, st => by
    unfold lcG lcL
    rw [if_pos (show AnyG st from trivial)]
    cases h d δ with
    | none => rfl
    | some δ0 =>
      dsimp only
      congr 1
      funext b st1
      cases b with
      | true =>
        simp only [↓reduceIte]
        congr 1
        funext v st2
        split
        · split
          · exact lcG_any h ft fe n ds _ δ _
          · rfl
        · rfl
      | false =>
        simp only [Bool.false_eq_true, ↓reduceIte]
        split
        · exact lcG_any h ft fe n ds _ δ _
        · rfl
def dLc (vs : List Nat) (h : PyData → List DV → Option (List DV)) (fi : IF) (ft : TF) (fe : EF) : EF := fun δ st => (fi δ st).bd fun items st1 =>
  (lcL h ft fe st1.length items [] (wipeD δ vs) st1).bx fun ys st2 => .ok (.dat (.list ys)) st2
theorem dLcG_any {vs : List Nat} {h : PyData → List DV → Option (List DV)} {fi : IF} {ft : TF} {fe : EF} : dLcG G0 vs h fi ft fe = dLc vs h fi ft fe := by
  funext δ st
  unfold dLcG dLc
  congr 1
  funext items st1
  rw [lcG_any]
def tYesF : TF := fun _ st => .ok true st
theorem mt_yes {W : WX} : MtT R W tYes tYesF := fun w H σ δ st Q S L P => P true H w (Wd.le.refl _) S rfl
/-- G that does not mind one cell more -/
def Gok (G : List PyData → List DV → List Cell → List Cell → Prop) : Prop := ∀ items δ st1 st c, G items δ st1 st → G items δ st1 (st ++ [c])
theorem gok0 : Gok G0 := fun _ _ _ _ _ h => h
theorem gokP (i : Nat) : Gok (GP i) := fun items δ st1 st c h => by
  unfold GP at h ⊢
  split at h
  · rename_i k e
    rw [List.getElem?_append_left (List.getElem?_eq_some_iff.mp h).1]
    exact h
  · exact h.elim
theorem mt_lc {G : List PyData → List DV → List Cell → List Cell → Prop} {wi : TI} {vs : List Nat} {g : TG} {h : PyData → List DV → Option (List DV)} {tt : TT} {te : TE} {fi : IF} {ft : TF} {fe : EF} (gk : Gok G) (hi : MtI R W G wi fi) (hg : TgW R vs g h) (ht : MtT R W0 tt ft) (he : MtE R W0 te fe) :
    MtE R W (tLc wi g tt te vs) (dLcG G vs h fi ft fe) := by
  intro w H σ δ st Q S L P
  refine hi w H σ δ st _ S L ?_
  unfold dLcG at P
  cases e : fi δ st with
  | bad => rw [e] at P; exact P.elim
  | rs c st1 => rw [e] at P; exact P
  | ok items st1 =>
    rw [e] at P
    intro J H1 w1 l1 S1 wk Dn hD
    have P1 : Post R W w σ (DvR R) Q ((lcG (G items δ st1) h ft fe st1.length items [] (wipeD δ vs) st1).bx fun ys st2 => .ok (.dat (.list ys)) st2) := P
    cases e2 : lcG (G items δ st1) h ft fe st1.length items [] (wipeD δ vs) st1 with
    | bad => rw [e2] at P1; exact P1.elim
    | rs c st2 => rw [e2] at P1; exact P1.elim
    | ok ys st2 =>
      rw [e2] at P1
      exact lc_wk hg ht he (gk items δ st1) hD wk S1 (L.mono l1) e2 fun H' w' l' S' r => P1 _ H' w' (l1.trans l') S' r

/-- [e for x in ..] as a value -/
theorem de_lc (C : Ct R X W k) {G : List PyData → List DV → List Cell → List Cell → Prop} (gk : Gok G) {elt tg iter : Expr} {ifs : List Expr} {scope : Scope} {own : List (Str × Nat)} {pos : Pos} {g : TG} {h : PyData → List DV → Option (List DV)} {tt : TT} {fi : IF} {ft : TF} {fe : EF}
    (hi : DI R X W G tg iter fi) (ok : BlkOk X.N X.env.scope scope own) (hg : ∀ (s : Shared) (H : Hp) (C : Addr) (cl : List (Str × Addr)) (fp : List Addr), PG (X.blk s H scope (compEnvC scope cl C X.env) fp) tg g) (hgm : TgW R (own.map (·.2)) g h)
    (ht : ∀ (s : Shared) (H : Hp) (C : Addr) (cl : List (Str × Addr)) (fp : List Addr), PTs (X.blk s H scope (compEnvC scope cl C X.env) fp) ifs tt) (htm : MtT R W0 tt ft)
    (he : ∀ (s : Shared) (H : Hp) (C : Addr) (cl : List (Str × Addr)) (fp : List Addr), DE R (X.blk s H scope (compEnvC scope cl C X.env) fp) W0 elt fe) (hs : ∀ x, foldedSetIterable iter X.env x = pure x := by intro _; rfl) :
    DE R X W (.ListComp elt [⟨tg, iter, ifs, 0⟩] scope pos) (dLcG G (own.map (·.2)) h fi ft fe) := by
  obtain ⟨wi, pi, mi⟩ := hi
  exact ⟨_, pe_lc C.calm C.nd pi ok hg ht (fun s H C cl fp => (he s H C cl fp).can) hs, mt_lc gk mi hgm htm mt_of⟩
/-- y = [e for x in ..] -/
theorem ds_setLc (C : Ct R X W k) {G : List PyData → List DV → List Cell → List Cell → Prop} (gk : Gok G) {i : Nat} {y : Str} {py : Pos} {elt tg iter : Expr} {ifs : List Expr} {scope : Scope} {own : List (Str × Nat)} {pos spos : Pos} {g : TG} {h : PyData → List DV → Option (List DV)} {tt : TT} {fi : IF} {ft : TF} {fe : EF}
    (hy : X.N[i]? = some y) (hyl : X.env.scope.names.lookup y = some .local) (hsw : swapsWith (.ListComp elt [⟨tg, iter, ifs, 0⟩] scope pos) (some (.Name y py)) spos.line X.env = pure true)
    (hi : DI R X W G tg iter fi) (ok : BlkOk X.N X.env.scope scope own) (hg : ∀ (s : Shared) (H : Hp) (C : Addr) (cl : List (Str × Addr)) (fp : List Addr), PG (X.blk s H scope (compEnvC scope cl C X.env) fp) tg g) (hgm : TgW R (own.map (·.2)) g h)
    (ht : ∀ (s : Shared) (H : Hp) (C : Addr) (cl : List (Str × Addr)) (fp : List Addr), PTs (X.blk s H scope (compEnvC scope cl C X.env) fp) ifs tt) (htm : MtT R W0 tt ft)
    (he : ∀ (s : Shared) (H : Hp) (C : Addr) (cl : List (Str × Addr)) (fp : List Addr), DE R (X.blk s H scope (compEnvC scope cl C X.env) fp) W0 elt fe) (hs : ∀ x, foldedSetIterable iter X.env x = pure x := by intro _; rfl) :
    DS R X W (.Assign [.Name y py] (.ListComp elt [⟨tg, iter, ifs, 0⟩] scope pos) spos) (sSet i (dLcG G (own.map (·.2)) h fi ft fe)) := by
  obtain ⟨wi, pi, mi⟩ := hi
  exact ⟨_, L2.ps_setLc C.calm C.nd hy hyl hsw pi ok hg ht (fun s H C cl fp => (he s H C cl fp).can) hs, mts_set (mt_lc gk mi hgm htm mt_of)⟩
end
end WB

set_option maxRecDepth 100000
set_option maxHeartbeats 4000000
namespace WB
open PySem PySem.Spec PyProof.Rows L2

abbrev FnF := List DV → List Cell → ER DV
/-- what is handed back: a cell of its own is frozen, its own cells are forgotten -/
def exitV (n : Nat) (v : DV) (st : List Cell) : ER DV := match v with
  | .ptr k => if k < n then .ok (.ptr k) (st.take n) else (match st[k]? with
    | some (.mu xs) => .ok (.dat (.list xs)) (st.take n)
    | some (.fz xs) => .ok (.dat (.list xs)) (st.take n)
    | _ => .bad)
  | .un => .bad
  | .dat d => .ok (.dat d) (st.take n)
  | .ex c => .ok (.ex c) (st.take n)
  | .scr ns => .ok (.scr ns) (st.take n)
def exitR (n : Nat) : SR → ER DV
  | .nx _ st => .ok (.dat .none) (st.take n)
  | .rt v st => exitV n v st
  | .rs c _ st => .rs c (st.take n)
  | _ => .bad
/-- a def of N slots by its body -/
def fnD (N : Nat) (f : SF) : FnF := fun ds st => exitR st.length (f (ds ++ List.replicate (N - ds.length) .un) st)

/-- the promise -/
def spD (R : Rx) (n : Nat) (m : FnF) : Sp := fun vs H Q E => vs.length = n ∧ ∃ w st ds, Sto R w H st ∧ DvsR R w vs ds ∧ Post R (fun c d _ H' => E c d H') w [] (DvR R) Q (m ds st)

section
variable {R : Rx}
theorem slr_un {w : Wd} : ∀ n : Nat, SlR R w (List.replicate n none) (List.replicate n .un)
  | 0 => .nil
  | n + 1 => .un (slr_un n)
theorem slr_start {w : Wd} {N : List Str} : ∀ {vs : List V} {ds : List DV}, DvsR R w vs ds → ∀ n, SlR R w (vs.map some ++ List.replicate n none) (ds ++ List.replicate n .un)
  | _, _, .nil, n => slr_un n
  | _, _, .cons h r, n => .cons h (slr_start (N := N) r n)
/-- back to the caller's cells -/
theorem Sto.back {w w' : Wd} {H : Hp} {st : List Cell} {n : Nat} (l : w.le w') (hn : w.as.length = n) (S : Sto R w' H st) : Sto R ⟨w'.F, w.as⟩ H (st.take n) ∧ w.le ⟨w'.F, w.as⟩ := by
  have q := S.drop n
  have e : w'.as.take n = w.as := prefix_take_eq l.2 hn
  rw [e] at q
  exact ⟨q, l.1, List.prefix_refl _⟩
theorem exit_ok {w : Wd} {n : Nat} {Q : VK} {E : XK} (hn : w.as.length = n) : ∀ {r : SR}, Post R (fun c d _ H' => E c d H') w [] (DvR R) Q (exitR n r) → PostS R (fun c d _ H' => E c d H') w { nx := fun _ H' => Q .non H', rt := Q } r
  | .nx δ st, P => fun σ' H' w' l S L => by
    obtain ⟨S1, l1⟩ := S.back l hn
    exact P .non H' _ l1 S1 .non
  | .rs c δ st, P => fun σ' H' w' l S L => by
    obtain ⟨S1, l1⟩ := S.back l hn
    exact P H' _ l1 S1
  | .br _ _, P => P.elim
  | .ct _ _, P => P.elim
  | .bad, P => P.elim
  | .rt v st, P => fun x H' w' l S r => by
    have P' : Post R (fun c d _ H' => E c d H') w [] (DvR R) Q (exitV n v st) := P
    unfold exitV at P'
    cases v with
    | un => exact P'.elim
    | dat d =>
      obtain ⟨S1, l1⟩ := S.back l hn
      exact P' x H' _ l1 S1 r
    | ex c =>
      obtain ⟨S1, l1⟩ := S.back l hn
      exact P' x H' _ l1 S1 r
    | scr ns =>
      obtain ⟨S1, l1⟩ := S.back l hn
      exact P' x H' _ l1 S1 r
    | ptr k =>
      dsimp only at P'
      obtain ⟨a, ea, rfl⟩ := r
      split at P'
      · rename_i hk
        obtain ⟨S1, l1⟩ := S.back l hn
        refine P' _ H' _ l1 S1 ⟨a, ?_, rfl⟩
        have h1 : k < w.as.length := by omega
        have h2 := prefix_get l.2 (List.getElem?_eq_getElem h1)
        rw [ea] at h2
        rw [List.getElem?_eq_getElem h1]; exact h2.symm
      · rename_i hk
        split at P'
        · rename_i xs e
          obtain ⟨a', vs, ea', hH, Fa, ha, S2, l2⟩ := S.frz e
          rw [ea] at ea'; cases ea'
          obtain ⟨S3, l3⟩ := S2.back (l.trans l2) hn
          rw [List.take_set_of_le (by omega)] at S3
          exact P' _ H' _ l3 S3 (.lst upd_same (DtAll.mono l2.1 ha))
        · rename_i xs e
          obtain ⟨a', vs, ea', hF, ha⟩ := S.lstF e
          rw [ea] at ea'; cases ea'
          obtain ⟨S3, l3⟩ := S.back l hn
          exact P' _ H' _ l3 S3 (.lst hF ha)
        · exact P'.elim

/-- the context of a def's body -/
abbrev fcx (P : Program) (w : World) (K : PySem.W.Frag) (mg : Str → Option Value) (base : Heap) (N : List Str) (qual : Str) (st : Stmt) (f : Addr) (cdv : Value) (A : Around) (outer : List Env) (s : Shared) (H : Hp) (E : XK) : Cx := cxOf (L2.CX P w) P w K mg base N qual (defScope st) f cdv A outer s H E
abbrev WXE (E : XK) : WX := fun c d _ H' => E c d H'
/-- a def that keeps the promise of m, by level j -/
structure FnD (R : Rx) (P : Program) (w : World) (mg : Str → Option Value) (base : Heap) (j : Nat) (x : Str) (n : Nat) (m : FnF) : Prop where
  ex : ∃ (f : Addr) (fd : FuncData) (ps : List Str), mg x = some (.ref f) ∧ PySem.W.keepIn R.K (.ref f) = true ∧ Binds R.K fd ps [] ∧ ps.length = n ∧ FnOk P w R.K mg base (L2.CX P w) j f fd ps (spD R n m)
theorem FnD.mono {P : Program} {w : World} {mg : Str → Option Value} {base : Heap} {i j : Nat} {x : Str} {n : Nat} {m : FnF} (F : FnD R P w mg base i x n m) (h : i ≤ j) : FnD R P w mg base j x n m := by
  obtain ⟨f, fd, ps, h1, h2, h3, h4, h5⟩ := F.ex
  exact ⟨f, fd, ps, h1, h2, h3, h4, h5.mono h⟩
theorem fnOk_of {P : Program} {w : World} {mg : Str → Option Value} {base : Heap} {k n : Nat} {x qual : Str} {st : Stmt} {f : Addr} {fd : FuncData} {N ps : List Str} {fb : SF} {q : Nat} (F : Fun R.K x qual st f fd) (S : FnScope N ps (defScope st)) (hN : ps.length = n) (hq : N.length = q)
    (hb : ∀ (cdv : Value) (A : Around) (outer : List Env) (s : Shared) (H : Hp) (E : XK), Ct R (fcx P w R.K mg base N qual st f cdv A outer s H E) (WXE E) k → DSs R (fcx P w R.K mg base N qual st f cdv A outer s H E) (WXE E) (defBody st) fb) :
    FnOk P w R.K mg base (L2.CX P w) (k + 1) f fd ps (spD R n (fnD q fb)) := by
  subst hq
  refine F.okX S (fun vs H Q E h => h.1.trans hN.symm) (fun cdv A outer s H vs Q E hr h => ?_)
  obtain ⟨hl, wd, st0, ds, S0, r0, P0⟩ := h
  obtain ⟨t, p, m⟩ := hb cdv A outer s H E ⟨rfl, rfl, hr, takes_of rfl rfl rfl rfl, passes_of rfl, S.nd⟩
  refine ⟨t, p, m wd H _ (ds ++ List.replicate (N.length - ds.length) DV.un) st0 _ S0 ?_ (exit_ok S0.len P0)⟩
  show SlR R wd (vs.map some ++ List.replicate (N.length - vs.length) none) _
  rw [r0.length]
  exact slr_start (N := N) r0 _
theorem fnD_of {P : Program} {w : World} {mg : Str → Option Value} {base : Heap} {k n : Nat} {x qual : Str} {st : Stmt} {f : Addr} {fd : FuncData} {N ps : List Str} {fb : SF} {q : Nat} (F : Fun R.K x qual st f fd) (S : FnScope N ps (defScope st)) (hN : ps.length = n) (hq : N.length = q) (g : mg x = some (.ref f)) (b : Binds R.K fd ps [])
    (hb : ∀ (cdv : Value) (A : Around) (outer : List Env) (s : Shared) (H : Hp) (E : XK), Ct R (fcx P w R.K mg base N qual st f cdv A outer s H E) (WXE E) k → DSs R (fcx P w R.K mg base N qual st f cdv A outer s H E) (WXE E) (defBody st) fb) :
    FnD R P w mg base (k + 1) x n (fnD q fb) := ⟨f, fd, ps, g, F.kp, b, hN, fnOk_of F S hN hq hb⟩
theorem FnD.to {P : Program} {w : World} {mg : Str → Option Value} {base : Heap} {j : Nat} {x : Str} {n : Nat} {m m' : FnF} (F : FnD R P w mg base j x n m) (h : ∀ ds st, m ds st = m' ds st) : FnD R P w mg base j x n m' := by
  have e : m = m' := funext fun ds => funext fun st => h ds st
  rw [← e]; exact F
/-- a def by a better function: where m' says something, m says the same -/
theorem FnD.by {P : Program} {w : World} {mg : Str → Option Value} {base : Heap} {j : Nat} {x : Str} {n : Nat} {m m' : FnF} (F : FnD R P w mg base j x n m) (h : ∀ ds st, m' ds st ≠ .bad → m ds st = m' ds st) : FnD R P w mg base j x n m' := by
  obtain ⟨f, fd, ps, h1, h2, h3, h4, h5⟩ := F.ex
  refine ⟨f, fd, ps, h1, h2, h3, h4, h5.imp fun vs H Q E ⟨hl, wd, st, ds, S, r, P⟩ => ⟨hl, wd, st, ds, S, r, ?_⟩⟩
  rw [h ds st (fun z => by rw [z] at P; exact P.elim)]
  exact P
/-! ### calls -/
def dCall (n : Nat) (m : FnF) (fa : AF) : EF := fun δ st => (fa δ st).bd fun vs st1 => if vs.length = n then m vs st1 else .bad
theorem de_call {X : Cx} {W : WX} {k j n : Nat} {m : FnF} {x : Str} {p pos : Pos} {e : Expr} {es : List Expr} {fa : AF} (C : Ct R X W k) (F : FnD R X.prog X.w X.mg X.base j x n m) (hj : j ≤ k) (ha : DA R X W (e :: es) fa) (hg : Gl X x := by rfl)
    (hdb : (x == ("__debug__" : Str)) = false := by decide) (he : starEach (e :: es) X.env = (false, eval e X.env) :: starEach es X.env := by rfl) (hpl : (backTo pos (starEach es X.env)).any (·.1) = false := by rfl) :
    DE R X W (.Call (.Name x p) (e :: es) [] pos) (dCall n m fa) := by
  obtain ⟨ta, pa, ma⟩ := ha
  obtain ⟨f, fd, ps, h1, h2, h3, h4, h5⟩ := F.ex
  have F' : FnOk X.prog X.w X.K X.mg X.base (L2.CX X.prog X.w) j f fd ps (spD R n m) := by rw [C.hK]; exact h5
  refine ⟨_, pe_callSD F' (C.room.mono hj) hg h1 (by rw [C.hK]; exact h2) (by rw [C.hK]; exact h3) .nil (fun σ => passAt C.tk σ) pa hdb he hpl, fun w H σ δ st Q S L P => ?_⟩
  refine ma.seq S L P fun vs st1 xs H1 w1 l1 S1 L1 r1 P1 => ?_
  by_cases hn : vs.length = n
  · rw [if_pos hn] at P1
    rw [List.append_nil]
    refine ⟨by rw [r1.length, hn], w1, st1, vs, S1, r1, ?_⟩
    cases e : m vs st1 with
    | ok v st2 => rw [e] at P1; exact P1
    | rs c st2 => rw [e] at P1; exact P1
    | bad => rw [e] at P1; exact P1.elim
  · rw [if_neg hn] at P1; exact P1.elim
/-! ### errors raised -/
structure ExcT (R : Rx) (mg : Str → Option Value) (x : Str) (c : Nat) : Prop where
  gC : mg x = some (.ref (R.ca c))
  q : PySem.W.excIn R.K (R.ca c) [.type "ValueError", .type "Exception", .type "BaseException", .type "object"] "ValueError.__new__" = true
  kC : PySem.W.keepIn R.K (.ref (R.ca c)) = true
  b : PySem.W.subIn R.K (.ref (R.ca c)) (.type "BaseException") = some true
  t : PySem.W.typeIn R.K (.ref (R.ca c)) = some (.type "type")
def sRaise (c : Nat) : SF := fun δ st => .rs c δ st
theorem ds_raise {X : Cx} {W : WX} {k c : Nat} {x m : Str} {j : Nat} {p p2 pos pos2 : Pos} (C : Ct R X W k) (T : ExcT R X.mg x c) (hg : Gl X x := by rfl) (hdb : (x == ("__debug__" : Str)) = false := by decide) :
    DS R X W (.Raise (some (.Call (.Name x p) [.Constant (.str m) j p2] [] pos)) none pos2) (sRaise c) := by
  have hK := C.hK
  refine ⟨_, ps_raise C.calm C.tk (pmk_own PySem.F.excBase_ValueError (by rw [hK]; exact T.q) T.gC (by rw [hK]; exact T.kC) (raises_own (by rw [hK]; exact T.b) (by rw [hK]; exact T.t)) hg hdb), fun w H σ δ st D S L P => ?_⟩
  exact P σ H w (Wd.le.refl _) S L
end
end WB

set_option maxRecDepth 100000
set_option maxHeartbeats 4000000
namespace WB
open PySem PySem.Spec PyProof.Rows L2

/-! ### reading lists and tuples -/
/-- the items of a list, wherever it stands -/
def rdL (st : List Cell) : DV → Option (List PyData)
  | .dat (.list xs) => some xs
  | .ptr k => (match st[k]? with
    | some (.mu xs) => some xs
    | some (.fz xs) => some xs
    | _ => none)
  | .scr ns => some (ns.map PyData.int)
  | _ => none
/-- .. of one that is tracked as a plain list -/
def rdM (st : List Cell) : DV → Option (List PyData)
  | .dat (.list xs) => some xs
  | .ptr k => (match st[k]? with
    | some (.mu xs) => some xs
    | some (.fz xs) => some xs
    | _ => none)
  | _ => none
def rdT : DV → Option (List PyData)
  | .dat (.tuple xs) => some xs
  | _ => none
/-- as data -/
def rdD (st : List Cell) : DV → Option PyData
  | .dat d => some d
  | .ptr k => (match st[k]? with
    | some (.mu xs) => some (.list xs)
    | some (.fz xs) => some (.list xs)
    | _ => none)
  | .scr ns => some (.list (ns.map PyData.int))
  | _ => none
/-- a new list: a cell of its own (mk), or one that never changes -/
def newL (mk : Bool) (xs : List PyData) (st : List Cell) : ER DV := if mk = true then .ok (.ptr st.length) (st ++ [.mu xs]) else .ok (.dat (.list xs)) st

section
variable {R : Rx} {X : Cx} {W : WX} {k : Nat}
theorem rdM_ok {w : Wd} {H : Hp} {st : List Cell} {x : V} {v : DV} {xs : List PyData} (S : Sto R w H st) (r : DvR R w x v) (e : rdM st v = some xs) : ∃ a vs, x = .ref a ∧ H a = some (.lst vs) ∧ DtAll R.K w.F vs xs := by
  unfold rdM at e
  split at e
  · cases e
    cases r with
    | lst h ha => exact ⟨_, _, rfl, S.sub _ _ h, ha⟩
  · rename_i k
    obtain ⟨a, ea, rfl⟩ := r
    split at e
    · rename_i ys e2
      cases e
      obtain ⟨a', vs, ea', hH, ha, _⟩ := S.lst e2
      rw [ea] at ea'; cases ea'
      exact ⟨_, _, rfl, hH, ha⟩
    · rename_i ys e2
      cases e
      obtain ⟨a', vs, ea', hF, ha⟩ := S.lstF e2
      rw [ea] at ea'; cases ea'
      exact ⟨_, _, rfl, S.sub _ _ hF, ha⟩
    · cases e
  · cases e
theorem rdL_ok {w : Wd} {H : Hp} {st : List Cell} {x : V} {v : DV} {xs : List PyData} (S : Sto R w H st) (r : DvR R w x v) (e : rdL st v = some xs) : ∃ a vs, x = .ref a ∧ SqL R.K H a vs ∧ DtAll R.K w.F vs xs := by
  cases v with
  | scr ns =>
    obtain ⟨a, rfl, hs⟩ := r
    cases e
    exact ⟨a, _, rfl, S.sub.seq hs, DtAll.ints ns⟩
  | dat d =>
    cases d with
    | list ys =>
      obtain ⟨a, vs, h1, h2, h3⟩ := rdM_ok (v := .dat (.list ys)) S r e
      exact ⟨a, vs, h1, SqL.of h2, h3⟩
    | _ => cases e
  | ptr k =>
    obtain ⟨a, vs, h1, h2, h3⟩ := rdM_ok (v := .ptr k) S r e
    exact ⟨a, vs, h1, SqL.of h2, h3⟩
  | _ => cases e
theorem rdT_ok {w : Wd} {H : Hp} {st : List Cell} {x : V} {v : DV} {xs : List PyData} (S : Sto R w H st) (r : DvR R w x v) (e : rdT v = some xs) : ∃ a vs, x = .ref a ∧ SqT R.K H a vs ∧ DtAll R.K w.F vs xs := by
  unfold rdT at e
  split at e
  · cases e
    cases r with
    | tup h ha => exact ⟨_, _, rfl, sqT_mono S.sub h, ha⟩
  · cases e
theorem rdD_ok {w : Wd} {H : Hp} {st : List Cell} {x : V} {v : DV} {d : PyData} (S : Sto R w H st) (r : DvR R w x v) (e : rdD st v = some d) : Dp R.K H x d := by
  cases v with
  | un => cases e
  | ex c => cases e
  | dat d' => cases e; exact (Dt.mono S.sub r).dp
  | scr ns =>
    obtain ⟨a, rfl, hs⟩ := r
    cases e
    exact .lst (S.sub.seq hs) (DtAll.mono S.sub (DtAll.ints ns)).dp
  | ptr k =>
    unfold rdD at e
    dsimp only at e
    split at e
    · rename_i ys e2
      cases e
      obtain ⟨a, vs, h1, h2, h3⟩ := rdM_ok (v := .ptr k) (xs := ys) S r (by unfold rdM; dsimp only; rw [e2])
      rw [h1]
      exact .lst (SqL.of h2) (DtAll.mono S.sub h3).dp
    · rename_i ys e2
      cases e
      obtain ⟨a, vs, h1, h2, h3⟩ := rdM_ok (v := .ptr k) (xs := ys) S r (by unfold rdM; dsimp only; rw [e2])
      rw [h1]
      exact .lst (SqL.of h2) (DtAll.mono S.sub h3).dp
    · cases e
theorem new_lst {w : Wd} {H : Hp} {st : List Cell} {σ : St} {Q : VK} {mk : Bool} {vs : List V} {xs : List PyData} {p : Addr} (S : Sto R w H st) (ha : DtAll R.K w.F vs xs) (P : Post R W w σ (DvR R) Q (newL mk xs st)) (hp : H p = none) : Q (.ref p) (upd H p (.lst vs)) := by
  unfold newL at P
  cases mk with
  | true =>
    simp only [↓reduceIte] at P
    obtain ⟨S1, l1⟩ := S.cell hp ha
    refine P _ _ _ l1 S1 ⟨p, ?_, rfl⟩
    show (w.as ++ [p])[st.length]? = some p
    rw [← S.len, List.getElem?_append_right (Nat.le_refl _), Nat.sub_self]; rfl
  | false =>
    simp only [Bool.false_eq_true, ↓reduceIte] at P
    obtain ⟨S1, l1⟩ := S.laid (o := .lst vs) hp
    exact P _ _ _ l1 S1 (.lst upd_same (DtAll.mono l1.1 ha))
theorem new_tup {w : Wd} {H : Hp} {st : List Cell} {σ : St} {Q : VK} {vs : List V} {xs : List PyData} {p : Addr} (S : Sto R w H st) (ha : DtAll R.K w.F vs xs) (P : Post R W w σ (DvR R) Q (.ok (.dat (.tuple xs)) st)) (hp : H p = none) : Q (.ref p) (upd H p (.tup vs)) := by
  obtain ⟨S1, l1⟩ := S.laid (o := .tup vs) hp
  exact P _ _ _ l1 S1 (.tup (SqT.of upd_same) (DtAll.mono l1.1 ha))
theorem Post.here {ι α : Type} {w : Wd} {H : Hp} {st : List Cell} {σ : St} {rel : Wd → ι → α → Prop} {Q : ι → Hp → Prop} {x : ι} {v : α} (P : Post R W w σ rel Q (.ok v st)) (S : Sto R w H st) (r : rel w x v) : Q x H := P x H w (Wd.le.refl _) S r

/-! ### ints -/
def dAdd (mk : Bool) (a b : DV) (st : List Cell) : ER DV := match a, b with
  | .dat (.int i), .dat (.int j) => .ok (.dat (.int (i + j))) st
  | .dat (.str x), .dat (.str y) => if x.length + y.length ≤ 1000000 then .ok (.dat (.str (x ++ y))) st else .bad
  | .dat (.tuple xs), .dat (.tuple ys) => if xs.length + ys.length ≤ 1000000 then .ok (.dat (.tuple (xs ++ ys))) st else .bad
  | a, b => (match rdM st a, rdM st b with
    | some xs, some ys => if xs.length + ys.length ≤ 1000000 then newL mk (xs ++ ys) st else .bad
    | _, _ => .bad)
def rAddA (K : PySem.W.Frag) : R2 := fun x y H Q => (rI0 fun i j => V.int (i + j)) x y H Q ∨ (∃ i j, x = .str i ∧ y = .str j ∧ i.length + j.length ≤ sizeLine ∧ Q (.str (i ++ j)) H) ∨ rCatA K x y H Q ∨ rCat x y H Q
theorem op_addA (hK : X.K = R.K) : OpR X (binaryOp .Add) (rAddA R.K) := by
  have h := (op_add (X := X)).or ((op_add_str (X := X)).or ((op_catA (X := X)).or (op_cat (X := X))))
  rw [hK] at h
  exact h
theorem line6 {n : Nat} (h : n ≤ 1000000) : n ≤ sizeLine := by rw [sizeLine_eq]; omega
theorem opm_add (mk : Bool) : OpMt R (rAddA R.K) (dAdd mk) := by
  intro W σ w H st x y a b Q S ra rb P
  unfold dAdd at P
  split at P
  · cases ra; cases rb
    exact .inl ⟨_, _, rfl, rfl, P.here S (.int _)⟩
  · cases ra; cases rb
    split at P
    · rename_i hz
      exact .inr (.inl ⟨_, _, rfl, rfl, line6 hz, P.here S (.str _)⟩)
    · exact P.elim
  · rename_i xs ys
    split at P
    · rename_i hz
      obtain ⟨p, vs, rfl, h1, h2⟩ := rdT_ok (v := .dat (.tuple xs)) S ra rfl
      obtain ⟨q, ws, rfl, h3, h4⟩ := rdT_ok (v := .dat (.tuple ys)) S rb rfl
      refine .inr (.inr (.inl ⟨p, q, vs, ws, rfl, rfl, h1, h3, by rw [h2.length, h4.length]; exact line6 hz, fun e => ?_, fun _ e => ?_, fun _ _ o ho => new_tup S (DtAll.append h2 h4) P ho⟩))
      · subst e
        cases h2
        exact P.here S rb
      · subst e
        cases h4
        rw [List.append_nil] at P
        exact P.here S ra
    · exact P.elim
  · split at P
    · rename_i xs ys e1 e2
      split at P
      · rename_i hz
        obtain ⟨p, vs, rfl, h1, h2⟩ := rdM_ok S ra e1
        obtain ⟨q, ws, rfl, h3, h4⟩ := rdM_ok S rb e2
        exact .inr (.inr (.inr ⟨p, q, vs, ws, rfl, rfl, h1, h3, by rw [h2.length, h4.length]; exact line6 hz, fun o ho => new_lst S (DtAll.append h2 h4) P ho⟩))
      · exact P.elim
    · exact P.elim
theorem de_add (C : Ct R X W k) (mk : Bool) {a b : Expr} {pos : Pos} {fa fb : EF} (ha : DE R X W a fa) (hb : DE R X W b fb) : DE R X W (.BinOp a .Add b pos) (dOp (dAdd mk) fa fb) := de_op (op_addA C.hK) (opm_add mk) ha hb
/-- an operation of two ints, under a condition -/
def dInt (c : Int → Int → Bool) (g : Int → Int → Int) (a b : DV) (st : List Cell) : ER DV := match a, b with
  | .dat (.int i), .dat (.int j) => if c i j = true then .ok (.dat (.int (g i j))) st else .bad
  | _, _ => .bad
theorem opm_int {Cn : Int → Int → Prop} {c : Int → Int → Bool} {g : Int → Int → Int} (hc : ∀ i j, c i j = true → Cn i j) : OpMt R (rI Cn fun i j => .int (g i j)) (dInt c g) := by
  intro W σ w H st x y a b Q S ra rb P
  unfold dInt at P
  split at P
  · cases ra; cases rb
    split at P
    · rename_i h
      exact ⟨_, _, rfl, rfl, hc _ _ h, P.here S (.int _)⟩
    · exact P.elim
  · exact P.elim
def dInt0 (g : Int → Int → Int) (a b : DV) (st : List Cell) : ER DV := match a, b with
  | .dat (.int i), .dat (.int j) => .ok (.dat (.int (g i j))) st
  | _, _ => .bad
theorem opm_int0 {g : Int → Int → Int} : OpMt R (rI0 fun i j => .int (g i j)) (dInt0 g) := by
  intro W σ w H st x y a b Q S ra rb P
  unfold dInt0 at P
  split at P
  · cases ra; cases rb
    exact ⟨_, _, rfl, rfl, P.here S (.int _)⟩
  · exact P.elim
theorem de_sub {a b : Expr} {pos : Pos} {fa fb : EF} (ha : DE R X W a fa) (hb : DE R X W b fb) : DE R X W (.BinOp a .Sub b pos) (dOp (dInt0 fun i j => i - j) fa fb) := de_op op_sub opm_int0 ha hb
def cMod (_ j : Int) : Bool := decide (0 < j)
theorem de_mod {a b : Expr} {pos : Pos} {fa fb : EF} (ha : DE R X W a fa) (hb : DE R X W b fb) : DE R X W (.BinOp a .Mod b pos) (dOp (dInt cMod fun i j => i % j) fa fb) := de_op op_mod (opm_int fun i j h => of_decide_eq_true h) ha hb
def cDiv (_ j : Int) : Bool := decide (0 < j) && decide (j < 1073741824)
theorem de_fdiv {a b : Expr} {pos : Pos} {fa fb : EF} (ha : DE R X W a fa) (hb : DE R X W b fb) : DE R X W (.BinOp a .FloorDiv b pos) (dOp (dInt cDiv fun i j => i / j) fa fb) := de_op op_fdiv (opm_int fun i j h => by
  unfold cDiv at h
  simp only [Bool.and_eq_true, decide_eq_true_eq] at h
  exact h) ha hb
def cPow (i j : Int) : Bool := decide (0 ≤ j) && (decide (j ≤ 1000000) && decide (i.natAbs < 2 ^ 64))
theorem de_pow {a b : Expr} {pos : Pos} {fa fb : EF} (ha : DE R X W a fa) (hb : DE R X W b fb) : DE R X W (.BinOp a .Pow b pos) (dOp (dInt cPow fun i j => i ^ j.toNat) fa fb) := de_op op_pow (opm_int fun i j h => by
  unfold cPow at h
  simp only [Bool.and_eq_true, decide_eq_true_eq] at h
  exact h) ha hb
/-- * of two ints, of a list (or tuple: not here) and an int -/
def cMul (i j : Int) : Bool := (decide (-(2 ^ 64) < i) && decide (i < 2 ^ 64)) || (decide (-(2 ^ 64) < j) && decide (j < 2 ^ 64))
def dMul (mk : Bool) (a b : DV) (st : List Cell) : ER DV := match a, b with
  | .dat (.int i), .dat (.int j) => if cMul i j = true then .ok (.dat (.int (i * j))) st else .bad
  | a, .dat (.int j) => (match rdM st a with
    | some xs => if (decide (-1000 ≤ j) && (decide (j ≤ 1000) && decide (xs.length ≤ 1000))) = true then newL mk (List.replicate j.toNat xs).flatten st else .bad
    | none => .bad)
  | _, _ => .bad
theorem rRep_def : rRep = fun x y H Q => ∃ l k xs, x = .ref l ∧ y = .int k ∧ H l = some (.lst xs) ∧ -(2 ^ 63) ≤ k ∧ k < 2 ^ 63 ∧ xs.length * k.toNat ≤ sizeLine ∧ ∀ p, H p = none → Q (.ref p) (upd H p (.lst (List.replicate k.toNat xs).flatten)) := rfl
theorem opm_mul (mk : Bool) : OpMt R (fun x y H Q => (rI CMul fun i j => .int (i * j)) x y H Q ∨ rRep x y H Q) (dMul mk) := by
  intro W σ w H st x y a b Q S ra rb P
  unfold dMul at P
  split at P
  · cases ra; cases rb
    split at P
    · rename_i h
      refine .inl ⟨_, _, rfl, rfl, ?_, P.here S (.int _)⟩
      unfold cMul at h
      simp only [Bool.or_eq_true, Bool.and_eq_true, decide_eq_true_eq] at h
      exact h
    · exact P.elim
  · cases rb
    split at P
    · rename_i xs e1
      split at P
      · rename_i h
        simp only [Bool.and_eq_true, decide_eq_true_eq] at h
        obtain ⟨h1, h2, h3⟩ := h
        obtain ⟨p, vs, rfl, h4, h5⟩ := rdM_ok S ra e1
        refine .inr ⟨p, _, vs, rfl, rfl, h4, by omega, by omega, ?_, fun o ho => new_lst S (DtAll.rep h5 _) P ho⟩
        rw [h5.length, sizeLine_eq]
        refine Nat.le_trans (Nat.mul_le_mul h3 (show _ ≤ 1000 by omega)) (by decide)
      · exact P.elim
    · exact P.elim
  · exact P.elim
theorem de_mul (mk : Bool) {a b : Expr} {pos : Pos} {fa fb : EF} (ha : DE R X W a fa) (hb : DE R X W b fb) : DE R X W (.BinOp a .Mult b pos) (dOp (dMul mk) fa fb) := de_op (op_mul.or op_rep) (opm_mul mk) ha hb
def dNeg (f : EF) : EF := fun δ st => (f δ st).bd fun v st1 => match v with
  | .dat (.int i) => .ok (.dat (.int (-i))) st1
  | _ => .bad
theorem de_neg {a : Expr} {pos : Pos} {f : EF} (h : DE R X W a f) : DE R X W (.UnaryOp .USub a pos) (dNeg f) := by
  obtain ⟨t, p, m⟩ := h
  refine ⟨_, pe_un un_neg p, fun w H σ δ st Q S L P => ?_⟩
  refine m.seq S L P fun v st1 x H1 w1 l1 S1 L1 r1 P1 => ?_
  split at P1
  · cases r1; exact ⟨_, rfl, P1.here S1 (.int _)⟩
  · exact P1.elim
/-! ### comparisons -/
def dCmp (g : Int → Int → Bool) (a b : DV) (st : List Cell) : ER DV := match a, b with
  | .dat (.int i), .dat (.int j) => .ok (.dat (.bool (g i j))) st
  | _, _ => .bad
theorem opm_cmp {g : Int → Int → Bool} : OpMt R (rI0 fun i j => .bl (g i j)) (dCmp g) := by
  intro W σ w H st x y a b Q S ra rb P
  unfold dCmp at P
  split at P
  · cases ra; cases rb
    exact ⟨_, _, rfl, rfl, P.here S (.bl _)⟩
  · exact P.elim
abbrev dLt := dCmp fun i j => decide (i < j)
abbrev dLe := dCmp fun i j => decide (i ≤ j)
abbrev dGt := dCmp fun i j => decide (j < i)
abbrev dGe := dCmp fun i j => decide (j ≤ i)
/-- == of data -/
def dEq (a b : DV) (st : List Cell) : ER DV := match rdD st a, rdD st b with
  | some d, some e => if (SeqAt.shaped d && SeqAt.shaped e) = true then .ok (.dat (.bool (PyData.eqv d e))) st else .bad
  | _, _ => .bad
def dNe (a b : DV) (st : List Cell) : ER DV := match rdD st a, rdD st b with
  | some d, some e => if (SeqAt.shaped d && SeqAt.shaped e) = true then .ok (.dat (.bool (!PyData.eqv d e))) st else .bad
  | _, _ => .bad
theorem opm_eq : OpMt R (rEqD R.K) dEq := by
  intro W σ w H st x y a b Q S ra rb P
  unfold dEq at P
  split at P
  · rename_i d e e1 e2
    split at P
    · rename_i h
      rw [Bool.and_eq_true] at h
      exact ⟨d, e, rdD_ok S ra e1, rdD_ok S rb e2, h.1, h.2, P.here S (.bl _)⟩
    · exact P.elim
  · exact P.elim
theorem opm_ne : OpMt R (rNeD R.K) dNe := by
  intro W σ w H st x y a b Q S ra rb P
  unfold dNe at P
  split at P
  · rename_i d e e1 e2
    split at P
    · rename_i h
      rw [Bool.and_eq_true] at h
      exact ⟨d, e, rdD_ok S ra e1, rdD_ok S rb e2, h.1, h.2, P.here S (.bl _)⟩
    · exact P.elim
  · exact P.elim
theorem op_eqR (C : Ct R X W k) : OpR X (compareOp .Eq) (rEqD R.K) := by
  have h := op_eqD (X := X) C.room.units
  rw [C.hK] at h; exact h
theorem op_neR (C : Ct R X W k) : OpR X (compareOp .NotEq) (rNeD R.K) := by
  have h := op_neD (X := X) C.room.units
  rw [C.hK] at h; exact h
/-- is None, is not None -/
def dIsN (a b : DV) (st : List Cell) : ER DV := match a, b with
  | .dat d, .dat .none => (match d with
    | .none => .ok (.dat (.bool true)) st
    | _ => .ok (.dat (.bool false)) st)
  | .ptr _, .dat .none => .ok (.dat (.bool false)) st
  | .ex _, .dat .none => .ok (.dat (.bool false)) st
  | _, _ => .bad
def dNotN (a b : DV) (st : List Cell) : ER DV := match a, b with
  | .dat d, .dat .none => (match d with
    | .none => .ok (.dat (.bool false)) st
    | _ => .ok (.dat (.bool true)) st)
  | .ptr _, .dat .none => .ok (.dat (.bool true)) st
  | .ex _, .dat .none => .ok (.dat (.bool true)) st
  | _, _ => .bad
theorem opm_isN : OpMt R (fun x y H Q => y = .non ∧ Q (.bl (decide (x = .non))) H) dIsN := by
  intro W σ w H st x y a b Q S ra rb P
  unfold dIsN at P
  split at P
  · cases rb
    refine ⟨rfl, ?_⟩
    split at P
    · cases ra; exact P.here S (.bl true)
    · rename_i d hd
      have : decide (x = V.non) = false := decide_eq_false fun e => by
        subst e; cases ra; exact hd rfl
      rw [this]; exact P.here S (.bl false)
  · cases rb
    obtain ⟨a, _, rfl⟩ := ra
    exact ⟨rfl, P.here S (.bl false)⟩
  · cases rb
    obtain ⟨a, rfl, _⟩ := ra
    exact ⟨rfl, P.here S (.bl false)⟩
  · exact P.elim
theorem opm_notN : OpMt R (fun x y H Q => y = .non ∧ Q (.bl (!decide (x = .non))) H) dNotN := by
  intro W σ w H st x y a b Q S ra rb P
  unfold dNotN at P
  split at P
  · cases rb
    refine ⟨rfl, ?_⟩
    split at P
    · cases ra; exact P.here S (.bl false)
    · rename_i d hd
      have : decide (x = V.non) = false := decide_eq_false fun e => by
        subst e; cases ra; exact hd rfl
      rw [this]; exact P.here S (.bl true)
  · cases rb
    obtain ⟨a, _, rfl⟩ := ra
    exact ⟨rfl, P.here S (.bl true)⟩
  · cases rb
    obtain ⟨a, rfl, _⟩ := ra
    exact ⟨rfl, P.here S (.bl true)⟩
  · exact P.elim
/-! ### in, not in: flat things in lists and tuples -/
def vOf : PyData → V
  | .none => .non
  | .bool b => .bl b
  | .int i => .int i
  | .str x => .str x
  | _ => .ty ""
def flatD : PyData → Bool
  | .none | .bool _ | .int _ | .str _ => true
  | _ => false
theorem vOf_of {K : PySem.W.Frag} {F : Hp} {v : V} {d : PyData} (h : Dt K F v d) (f : flatD d = true) : v = vOf d ∧ flatV v = true := by
  cases h with
  | non => exact ⟨rfl, rfl⟩
  | bl b => exact ⟨rfl, rfl⟩
  | int i => exact ⟨rfl, rfl⟩
  | str x => exact ⟨rfl, rfl⟩
  | lst _ _ => cases f
  | tup _ _ => cases f
theorem vOf_all {K : PySem.W.Frag} {F : Hp} : ∀ {vs : List V} {ds : List PyData}, DtAll K F vs ds → ds.all flatD = true → vs = ds.map vOf ∧ vs.all flatV = true
  | _, _, .nil, _ => ⟨rfl, rfl⟩
  | _, _, .cons h r, f => by
    simp only [List.all_cons, Bool.and_eq_true] at f
    obtain ⟨e1, e2⟩ := vOf_of h f.1
    obtain ⟨e3, e4⟩ := vOf_all r f.2
    exact ⟨by rw [List.map_cons, ← e1, ← e3], by simp only [List.all_cons, e2, e4, Bool.and_self]⟩
def isIn (d : PyData) (ds : List PyData) : Bool := inV (vOf d) (ds.map vOf)
def dIn (neg : Bool) (a b : DV) (st : List Cell) : ER DV := match a, (rdL st b).or (rdT b) with
  | .dat d, some ds => if (flatD d && ds.all flatD) = true then .ok (.dat (.bool (if neg then !isIn d ds else isIn d ds))) st else .bad
  | _, _ => .bad
theorem opm_in (neg : Bool) : OpMt R (rIn R.K neg) (dIn neg) := by
  intro W σ w H st x y a b Q S ra rb P
  unfold dIn at P
  split at P
  · rename_i d ds e
    split at P
    · rename_i h
      rw [Bool.and_eq_true] at h
      have hp : ∃ p vs, y = .ref p ∧ (SqL R.K H p vs ∨ SqT R.K H p vs) ∧ DtAll R.K w.F vs ds := by
        cases e1 : rdL st b with
        | some ds' =>
          rw [e1] at e
          cases e
          obtain ⟨p, vs, h1, h2, h3⟩ := rdL_ok S rb e1
          exact ⟨p, vs, h1, .inl h2, h3⟩
        | none =>
          rw [e1] at e
          obtain ⟨p, vs, h1, h2, h3⟩ := rdT_ok S rb e
          exact ⟨p, vs, h1, .inr h2, h3⟩
      obtain ⟨p, vs, rfl, h2, h3⟩ := hp
      obtain ⟨e1, e2⟩ := vOf_of ra h.1
      obtain ⟨e3, e4⟩ := vOf_all h3 h.2
      refine ⟨p, vs, rfl, h2, e2, e4, ?_⟩
      rw [e1, e3]
      exact P.here S (.bl _)
    · exact P.elim
  · exact P.elim
theorem op_inR (C : Ct R X W k) : OpR X (compareOp .In) (rIn R.K false) := by
  have h := op_in_seq (X := X)
  rw [C.hK] at h; exact h
theorem op_notInR (C : Ct R X W k) : OpR X (compareOp .NotIn) (rIn R.K true) := by
  have h := op_notIn_seq (X := X)
  rw [C.hK] at h; exact h
/-! ### items, slices -/
theorem atI_of {K : PySem.W.Frag} {F : Hp} {vs : List V} {ds : List PyData} {i : Int} {d : PyData} (h : DtAll K F vs ds) (e : atI ds i = some d) : ∃ v, atI vs i = some v ∧ Dt K F v d := by
  unfold atI at e ⊢
  rw [h.length]
  cases q : ixN ds.length i with
  | none => rw [q] at e; cases e
  | some j =>
    rw [q] at e
    exact h.get e
def dIx (a b : DV) (st : List Cell) : ER DV := match a, b with
  | .dat (.str z), .dat (.int i) => (match atI z.cps.toList i with
    | some c => if z.length ≤ 1000000 then .ok (.dat (.str ⟨#[c]⟩)) st else .bad
    | none => .bad)
  | a, .dat (.int i) => (match (rdL st a).or (rdT a) with
    | some ds => (match atI ds i with
      | some d => .ok (.dat d) st
      | none => .bad)
    | none => .bad)
  | _, _ => .bad
theorem opm_ix : OpMt R (rIx R.K) dIx := by
  intro W σ w H st x y a b Q S ra rb P
  unfold dIx at P
  split at P
  · cases ra; cases rb
    split at P
    · rename_i c e
      split at P
      · rename_i hz
        exact .inr (.inr ⟨_, _, c, rfl, rfl, line6 hz, e, P.here S (.str _)⟩)
      · exact P.elim
    · exact P.elim
  · cases rb
    split at P
    · rename_i ds e
      split at P
      · rename_i d e2
        cases e1 : rdL st a with
        | some ds' =>
          rw [e1] at e
          cases e
          obtain ⟨p, vs, rfl, h2, h3⟩ := rdL_ok S ra e1
          obtain ⟨v, e3, hv⟩ := atI_of h3 e2
          exact .inl ⟨p, vs, _, v, rfl, rfl, h2, e3, P.here S hv⟩
        | none =>
          rw [e1] at e
          obtain ⟨p, vs, rfl, h2, h3⟩ := rdT_ok S ra e
          obtain ⟨v, e3, hv⟩ := atI_of h3 e2
          exact .inr (.inl ⟨p, vs, _, v, rfl, rfl, h2, e3, P.here S hv⟩)
      · exact P.elim
    · exact P.elim
  · exact P.elim
theorem de_ix (C : Ct R X W k) {a b : Expr} {pos : Pos} {fa fb : EF} (ha : DE R X W a fa) (hb : DE R X W b fb) (hs : PlainIx b := by exact fun _ _ => rfl) : DE R X W (.Subscript a b pos) (dOp dIx fa fb) := by
  obtain ⟨ta, pa, ma⟩ := ha
  obtain ⟨tb, pb, mb⟩ := hb
  have h := ix_seq (X := X)
  rw [C.hK] at h
  exact ⟨_, pe_ix h pa pb hs, mt_op opm_ix ma mb⟩
/-- a part of a slice -/
abbrev OF := FF (Option Int)
def DO (R : Rx) (X : Cx) (W : WX) (e : Option Expr) (f : OF) : Prop := ∃ t, PO X e t ∧ Mt R W EqR t f
def oNone : OF := fun _ st => .ok none st
def oSome (f : EF) : OF := fun δ st => (f δ st).bd fun v st1 => match v with
  | .dat (.int i) => .ok (some i) st1
  | _ => .bad
theorem do_none : DO R X W none oNone := ⟨_, po_none, fun w H σ δ st Q S L P => P.here S rfl⟩
theorem do_some {e : Expr} {f : EF} (h : DE R X W e f) : DO R X W (some e) (oSome f) := by
  obtain ⟨t, p, m⟩ := h
  refine ⟨_, po_some p, fun w H σ δ st Q S L P => ?_⟩
  refine m.seq S L P fun v st1 x H1 w1 l1 S1 L1 r1 P1 => ?_
  split at P1
  · cases r1; exact ⟨_, rfl, P1.here S1 rfl⟩
  · exact P1.elim
def cutD (xs : List PyData) (lo hi : Option Int) : List PyData := (xs.drop (HT.sIx xs.length 0 lo)).take (HT.sIx xs.length xs.length hi - HT.sIx xs.length 0 lo)
theorem cut_of {K : PySem.W.Frag} {F : Hp} {vs : List V} {ds : List PyData} {lo hi : Option Int} (h : DtAll K F vs ds) : DtAll K F (cutV vs lo hi) (cutD ds lo hi) := by
  unfold cutV cutD
  rw [h.length]
  exact DtAll.take _ (DtAll.drop _ h)
def dSl (mk : Bool) (fa : EF) (fl fh : OF) : EF := fun δ st => (fa δ st).bd fun a st1 => (fl δ st1).bd fun lo st2 => (fh δ st2).bd fun hi st3 => match rdL st3 a with
  | some xs => newL mk (cutD xs lo hi) st3
  | none => .bad
theorem de_sl (C : Ct R X W k) (mk : Bool) {e : Expr} {lo hi : Option Expr} {pos p2 : Pos} {fa : EF} {fl fh : OF} (ha : DE R X W e fa) (hl : DO R X W lo fl) (hh : DO R X W hi fh) : DE R X W (.Subscript e (.Slice lo hi none p2) pos) (dSl mk fa fl fh) := by
  obtain ⟨ta, pa, ma⟩ := ha
  obtain ⟨tl, pl, ml⟩ := hl
  obtain ⟨th, ph, mh⟩ := hh
  refine ⟨_, pe_slice sl_list pa pl ph, fun w H σ δ st Q S L P => ?_⟩
  refine ma.seq S L P fun v st1 x H1 w1 l1 S1 L1 r1 P1 => ?_
  refine ml.seq S1 L1 P1 fun lo st2 lo' H2 w2 l2 S2 L2 r2 P2 => ?_
  refine mh.seq S2 L2 P2 fun hi st3 hi' H3 w3 l3 S3 L3 r3 P3 => ?_
  cases r2; cases r3
  split at P3
  · rename_i xs e
    obtain ⟨a, vs, rfl, h1, h2⟩ := rdL_ok S3 ((r1.mono l2).mono l3) e
    exact ⟨a, vs, rfl, by rw [C.hK]; exact h1, fun p hp => new_lst S3 (cut_of h2) P3 hp⟩
  · exact P3.elim
/-! ### lists and tuples written -/
/-- as data that never changes -/
def frzV (v : DV) (st : List Cell) : ER PyData := match v with
  | .dat d => .ok d st
  | .ptr k => (match st[k]? with
    | some (.mu xs) => .ok (.list xs) (st.set k (.fz xs))
    | some (.fz xs) => .ok (.list xs) st
    | _ => .bad)
  | _ => .bad
def frzAll : List DV → List Cell → ER (List PyData)
  | [], st => .ok [] st
  | v :: vs, st => (frzV v st).bd fun d st1 => (frzAll vs st1).bd fun ds st2 => .ok (d :: ds) st2
theorem frzV_ok {w : Wd} {H : Hp} {st st' : List Cell} {x : V} {v : DV} {d : PyData} (S : Sto R w H st) (r : DvR R w x v) (e : frzV v st = .ok d st') : ∃ w', w.le w' ∧ Sto R w' H st' ∧ Dt R.K w'.F x d := by
  unfold frzV at e
  split at e
  · cases e; exact ⟨w, Wd.le.refl _, S, r⟩
  · obtain ⟨a, ea, rfl⟩ := r
    split at e
    · rename_i xs e2
      cases e
      obtain ⟨a', vs, ea', hH, Fa, ha, S2, l2⟩ := S.frz e2
      rw [ea] at ea'; cases ea'
      exact ⟨_, l2, S2, .lst upd_same (DtAll.mono l2.1 ha)⟩
    · rename_i xs e2
      cases e
      obtain ⟨a', vs, ea', hF, ha⟩ := S.lstF e2
      rw [ea] at ea'; cases ea'
      exact ⟨w, Wd.le.refl _, S, .lst hF ha⟩
    · cases e
  · cases e
theorem frzAll_ok {H : Hp} : ∀ {w : Wd} {st st' : List Cell} {xs : List V} {vs : List DV} {ds : List PyData}, Sto R w H st → DvsR R w xs vs → frzAll vs st = .ok ds st' → ∃ w', w.le w' ∧ Sto R w' H st' ∧ DtAll R.K w'.F xs ds
  | w, st, st', _, _, ds, S, .nil, e => by
    cases e
    exact ⟨w, Wd.le.refl _, S, .nil⟩
  | w, st, st', _, _, ds, S, .cons (v := v) (vs := vs) h r, e => by
    unfold frzAll at e
    cases e1 : frzV v st with
    | bad => rw [e1] at e; cases e
    | rs c s => rw [e1] at e; cases e
    | ok d s1 =>
      rw [e1] at e
      obtain ⟨w1, l1, S1, h1⟩ := frzV_ok S h e1
      have e' : (frzAll vs s1).bd (fun ds st2 => ER.ok (d :: ds) st2) = .ok ds st' := e
      cases e2 : frzAll vs s1 with
      | bad => rw [e2] at e'; cases e'
      | rs c s => rw [e2] at e'; cases e'
      | ok ds2 s2 =>
        rw [e2] at e'
        cases e'
        obtain ⟨w2, l2, S2, h2⟩ := frzAll_ok S1 (r.mono l1) e2
        exact ⟨w2, l1.trans l2, S2, .cons (h1.mono l2.1) h2⟩
def dLst (mk : Bool) (fa : AF) : EF := fun δ st => (fa δ st).bd fun vs st1 => (frzAll vs st1).bx fun ds st2 => if ds.length ≤ 1000000 then newL mk ds st2 else .bad
theorem de_lst (mk : Bool) {es : List Expr} {pos : Pos} {fa : AF} (ha : DA R X W es fa) : DE R X W (.List es pos) (dLst mk fa) := by
  obtain ⟨t, p, m⟩ := ha
  refine ⟨_, pe_lst p, fun w H σ δ st Q S L P => ?_⟩
  refine m.seq S L P fun vs st1 xs H1 w1 l1 S1 L1 r1 P1 => ?_
  cases e : frzAll vs st1 with
  | bad => rw [e] at P1; exact P1.elim
  | rs c s => rw [e] at P1; exact P1.elim
  | ok ds st2 =>
    rw [e] at P1
    obtain ⟨w2, l2, S2, h2⟩ := frzAll_ok S1 r1 e
    have P2 : Post R W w1 σ (DvR R) Q (if ds.length ≤ 1000000 then newL mk ds st2 else .bad) := P1
    split at P2
    · rename_i hz
      exact ⟨by rw [h2.length]; exact line6 hz, fun q hq => new_lst S2 h2 (Post.mono l2 P2) hq⟩
    · exact P2.elim
def dTup (fa : AF) : EF := fun δ st => (fa δ st).bd fun vs st1 => (frzAll vs st1).bx fun ds st2 => if ds.length ≤ 1000000 then .ok (.dat (.tuple ds)) st2 else .bad
theorem de_tup {es : List Expr} {x1 : Nat} {pos : Pos} {fa : AF} (ha : DA R X W es fa) : DE R X W (.Tuple es x1 pos) (dTup fa) := by
  obtain ⟨t, p, m⟩ := ha
  refine ⟨_, pe_tup p, fun w H σ δ st Q S L P => ?_⟩
  refine m.seq S L P fun vs st1 xs H1 w1 l1 S1 L1 r1 P1 => ?_
  cases e : frzAll vs st1 with
  | bad => rw [e] at P1; exact P1.elim
  | rs c s => rw [e] at P1; exact P1.elim
  | ok ds st2 =>
    rw [e] at P1
    obtain ⟨w2, l2, S2, h2⟩ := frzAll_ok S1 r1 e
    have P2 : Post R W w1 σ (DvR R) Q (if ds.length ≤ 1000000 then .ok (.dat (.tuple ds)) st2 else .bad) := P1
    split at P2
    · rename_i hz
      exact ⟨by rw [h2.length]; exact line6 hz, fun q hq => new_tup S2 h2 (Post.mono l2 P2) hq⟩
    · exact P2.elim
end
end WB

set_option maxRecDepth 100000
set_option maxHeartbeats 4000000
namespace WB
open PySem PySem.Spec PyProof.Rows L2

/-! ### ints in data -/
def asInts : List PyData → Option (List Int)
  | [] => some []
  | .int i :: r => (asInts r).map (i :: ·)
  | _ :: _ => none
theorem asInts_eq : ∀ {xs : List PyData} {ns : List Int}, asInts xs = some ns → xs = ns.map PyData.int
  | [], ns, h => by cases h; rfl
  | .int i :: r, ns, h => by
    unfold asInts at h
    cases e : asInts r with
    | none => rw [e] at h; cases h
    | some ms =>
      rw [e] at h
      cases h
      rw [asInts_eq e]; rfl
  | .none :: _, _, h => by cases h
  | .bool _ :: _, _, h => by cases h
  | .str _ :: _, _, h => by cases h
  | .list _ :: _, _, h => by cases h
  | .tuple _ :: _, _, h => by cases h
  | .dict _ :: _, _, h => by cases h
theorem asInts_map : ∀ ns : List Int, asInts (ns.map PyData.int) = some ns
  | [] => rfl
  | n :: r => by
    show (asInts (r.map PyData.int)).map (n :: ·) = some (n :: r)
    rw [asInts_map r]; rfl
def asBools : List PyData → Option (List Bool)
  | [] => some []
  | .bool i :: r => (asBools r).map (i :: ·)
  | _ :: _ => none
theorem asBools_eq : ∀ {xs : List PyData} {ns : List Bool}, asBools xs = some ns → xs = ns.map PyData.bool
  | [], ns, h => by cases h; rfl
  | .bool i :: r, ns, h => by
    unfold asBools at h
    cases e : asBools r with
    | none => rw [e] at h; cases h
    | some ms =>
      rw [e] at h
      cases h
      rw [asBools_eq e]; rfl
  | .none :: _, _, h => by cases h
  | .int _ :: _, _, h => by cases h
  | .str _ :: _, _, h => by cases h
  | .list _ :: _, _, h => by cases h
  | .tuple _ :: _, _, h => by cases h
  | .dict _ :: _, _, h => by cases h
theorem asBools_map : ∀ ns : List Bool, asBools (ns.map PyData.bool) = some ns
  | [] => rfl
  | n :: r => by
    show (asBools (r.map PyData.bool)).map (n :: ·) = some (n :: r)
    rw [asBools_map r]; rfl
theorem DtAll.of_bools {K : PySem.W.Frag} {F : Hp} : ∀ {ns : List Bool} {vs : List V}, DtAll K F vs (ns.map PyData.bool) → vs = ns.map V.bl
  | [], _, .nil => rfl
  | n :: r, _, .cons h t => by cases h; rw [DtAll.of_bools t]; rfl
/-- the greatest, the least of a list that is not empty -/
def mxI : List Int → Int
  | [] => 0
  | [x] => x
  | x :: y :: r => max x (mxI (y :: r))
def mnI : List Int → Int
  | [] => 0
  | [x] => x
  | x :: y :: r => min x (mnI (y :: r))
theorem mxI_mem : ∀ {l : List Int}, l ≠ [] → mxI l ∈ l
  | [x], _ => List.mem_cons_self
  | x :: y :: r, _ => by
    show max x (mxI (y :: r)) ∈ x :: y :: r
    rcases Int.le_total x (mxI (y :: r)) with h | h
    · rw [Int.max_eq_right h]; exact List.mem_cons_of_mem _ (mxI_mem (by simp))
    · rw [Int.max_eq_left h]; exact List.mem_cons_self
theorem mxI_le : ∀ {l : List Int} {y : Int}, y ∈ l → y ≤ mxI l
  | [x], y, h => by have : y = x := by simpa using h
                    rw [this]; exact Int.le_refl _
  | x :: z :: r, y, h => by
    show y ≤ max x (mxI (z :: r))
    rcases List.mem_cons.mp h with h | h
    · rw [h]; exact Int.le_max_left _ _
    · exact Int.le_trans (mxI_le h) (Int.le_max_right _ _)
theorem mnI_mem : ∀ {l : List Int}, l ≠ [] → mnI l ∈ l
  | [x], _ => List.mem_cons_self
  | x :: y :: r, _ => by
    show min x (mnI (y :: r)) ∈ x :: y :: r
    rcases Int.le_total x (mnI (y :: r)) with h | h
    · rw [Int.min_eq_left h]; exact List.mem_cons_self
    · rw [Int.min_eq_right h]; exact List.mem_cons_of_mem _ (mnI_mem (by simp))
theorem mnI_le : ∀ {l : List Int} {y : Int}, y ∈ l → mnI l ≤ y
  | [x], y, h => by have : y = x := by simpa using h
                    rw [this]; exact Int.le_refl _
  | x :: z :: r, y, h => by
    show min x (mnI (z :: r)) ≤ y
    rcases List.mem_cons.mp h with h | h
    · rw [h]; exact Int.min_le_left _ _
    · exact Int.le_trans (Int.min_le_right _ _) (mnI_le h)
theorem mxI_eq {l : List Int} {m : Int} (h1 : m ∈ l) (h2 : ∀ y, y ∈ l → y ≤ m) : m = mxI l := Int.le_antisymm (mxI_le h1) (h2 _ (mxI_mem (List.ne_nil_of_mem h1)))
theorem mnI_eq {l : List Int} {m : Int} (h1 : m ∈ l) (h2 : ∀ y, y ∈ l → m ≤ y) : m = mnI l := Int.le_antisymm (h2 _ (mnI_mem (List.ne_nil_of_mem h1))) (mnI_le h1)
/-- sorted -/
def insI (x : Int) : List Int → List Int
  | [] => [x]
  | y :: r => if x ≤ y then x :: y :: r else y :: insI x r
def srtI : List Int → List Int
  | [] => []
  | x :: r => insI x (srtI r)
theorem insI_perm (x : Int) : ∀ l : List Int, (insI x l).Perm (x :: l)
  | [] => List.Perm.refl _
  | y :: r => by
    unfold insI
    split
    · exact List.Perm.refl _
    · exact ((insI_perm x r).cons y).trans (List.Perm.swap x y r)
theorem srtI_perm : ∀ l : List Int, (srtI l).Perm l
  | [] => List.Perm.refl _
  | x :: r => (insI_perm x (srtI r)).trans ((srtI_perm r).cons x)
theorem insI_sorted {x : Int} : ∀ {l : List Int}, l.Pairwise (· ≤ ·) → (insI x l).Pairwise (· ≤ ·)
  | [], _ => by simp [insI]
  | y :: r, h => by
    unfold insI
    obtain ⟨h1, h2⟩ := List.pairwise_cons.mp h
    split
    · rename_i hxy
      refine List.pairwise_cons.mpr ⟨fun z hz => ?_, h⟩
      rcases List.mem_cons.mp hz with q | q
      · rw [q]; exact hxy
      · exact Int.le_trans hxy (h1 z q)
    · rename_i hxy
      refine List.pairwise_cons.mpr ⟨fun z hz => ?_, insI_sorted h2⟩
      rcases List.mem_cons.mp ((insI_perm x r).mem_iff.mp hz) with q | q
      · rw [q]; omega
      · exact h1 z q
theorem srtI_sorted : ∀ l : List Int, (srtI l).Pairwise (· ≤ ·)
  | [] => List.Pairwise.nil
  | x :: r => insI_sorted (srtI_sorted r)

section
variable {R : Rx} {X : Cx} {W : WX} {k : Nat}
/-! ### calls of built-ins -/
def CallMt (R : Rx) (r : List V → Hp → VK → Prop) (g : List DV → List Cell → ER DV) : Prop := ∀ (W : WX) (σ : St) (w : Wd) (H : Hp) (st : List Cell) (xs : List V) (vs : List DV) (Q : VK), Sto R w H st → DvsR R w xs vs → Post R W w σ (DvR R) Q (g vs st) → r xs H Q
def dCB (g : List DV → List Cell → ER DV) (fa : AF) : EF := fun δ st => (fa δ st).bd g
theorem mt_cb {r : List V → Hp → VK → Prop} {g : List DV → List Cell → ER DV} {t : TA} {fa : AF} (h : CallMt R r g) (ha : MtA R W t fa) : MtE R W (tCB r t) (dCB g fa) := by
  intro w H σ δ st Q S L P
  refine ha.seq S L P fun vs st1 xs H1 w1 l1 S1 L1 r1 P1 => ?_
  exact h W σ w1 H1 st1 xs vs Q S1 r1 P1
theorem de_callB {r : List V → Hp → VK → Prop} {g : List DV → List Cell → ER DV} {id : String} {x : Str} {p pos : Pos} {e : Expr} {es : List Expr} {fa : AF} (hc : CallR X (.builtin id) r) (h : CallMt R r g) (hm : X.mg x = none) (hv : bootBuiltins x = some (.builtin id)) (ha : DA R X W (e :: es) fa) (hg : Gl X x := by rfl)
    (hn : x ≠ "__name__" := by decide) (hdb : (x == ("__debug__" : Str)) = false := by decide) (he : starEach (e :: es) X.env = (false, eval e X.env) :: starEach es X.env := by rfl) (hpl : (backTo pos (starEach es X.env)).any (·.1) = false := by rfl) : DE R X W (.Call (.Name x p) (e :: es) [] pos) (dCB g fa) := by
  obtain ⟨t, pa, m⟩ := ha
  exact ⟨_, pe_callB hc hg hm hv pa hn hdb he hpl, mt_cb h m⟩
theorem de_callTy {r : List V → Hp → VK → Prop} {g : List DV → List Cell → ER DV} {T : String} {x : Str} {p pos : Pos} {e : Expr} {es : List Expr} {fa : AF} (hc : CallR X (.type T) r) (h : CallMt R r g) (hm : X.mg x = none) (hv : bootBuiltins x = some (.type T)) (ha : DA R X W (e :: es) fa) (hg : Gl X x := by rfl)
    (hn : x ≠ "__name__" := by decide) (hdb : (x == ("__debug__" : Str)) = false := by decide) (he : starEach (e :: es) X.env = (false, eval e X.env) :: starEach es X.env := by rfl) (hpl : (backTo pos (starEach es X.env)).any (·.1) = false := by rfl) : DE R X W (.Call (.Name x p) (e :: es) [] pos) (dCB g fa) := by
  obtain ⟨t, pa, m⟩ := ha
  exact ⟨_, pe_callTy hc hg hm hv pa hn hdb he hpl, mt_cb h m⟩
theorem rdLT_ok {w : Wd} {H : Hp} {st : List Cell} {x : V} {v : DV} {ds : List PyData} (S : Sto R w H st) (r : DvR R w x v) (e : (rdL st v).or (rdT v) = some ds) : ∃ a vs, x = .ref a ∧ (SqL R.K H a vs ∨ SqT R.K H a vs) ∧ DtAll R.K w.F vs ds := by
  cases e1 : rdL st v with
  | some ds' =>
    rw [e1] at e
    cases e
    obtain ⟨p, vs, h1, h2, h3⟩ := rdL_ok S r e1
    exact ⟨p, vs, h1, .inl h2, h3⟩
  | none =>
    rw [e1] at e
    obtain ⟨p, vs, h1, h2, h3⟩ := rdT_ok S r e
    exact ⟨p, vs, h1, .inr h2, h3⟩
/-- len -/
def gLen (vs : List DV) (st : List Cell) : ER DV := match vs with
  | [.dat (.str z)] => if z.length ≤ 1000000 then .ok (.dat (.int z.length)) st else .bad
  | [v] => (match (rdL st v).or (rdT v) with
    | some ds => .ok (.dat (.int ds.length)) st
    | none => .bad)
  | _ => .bad
theorem cm_len : CallMt R (fun xs H Q => ∃ x n, xs = [x] ∧ LenV R.K x H n ∧ Q (.int n) H) gLen := by
  intro W σ w H st xs vs Q S r P
  unfold gLen at P
  split at P
  · cases r with
    | cons h1 h2 =>
      cases h2
      cases h1
      split at P
      · rename_i hz
        exact ⟨_, _, rfl, ⟨line6 hz, rfl⟩, P.here S (.int _)⟩
      · exact P.elim
  · cases r with
    | cons h1 h2 =>
      cases h2
      split at P
      · rename_i ds e
        obtain ⟨a, ws, rfl, h2, h3⟩ := rdLT_ok S h1 e
        refine ⟨_, ws.length, rfl, ?_, ?_⟩
        · rcases h2 with h2 | h2
          · exact .inl ⟨ws, h2, rfl⟩
          · exact .inr ⟨ws, h2, rfl⟩
        · rw [h3.length]
          exact P.here S (.int _)
      · exact P.elim
  · exact P.elim
theorem de_len (C : Ct R X W k) {p pos : Pos} {e : Expr} {fa : EF} (hm : X.mg "len" = none) (ha : DE R X W e fa) (hg : Gl X "len" := by rfl) (he : starEach [e] X.env = (false, eval e X.env) :: starEach [] X.env := by rfl) :
    DE R X W (.Call (.Name "len" p) [e] [] pos) (dCB gLen (dCons fa dNil)) := by
  have h := call_len (X := X)
  rw [C.hK] at h
  exact de_callB h cm_len hm PySem.boot_len (da_cons ha da_nil he) hg (he := he)
/-- max, min, sum of a list of ints -/
def gMax (vs : List DV) (st : List Cell) : ER DV := match vs with
  | [v] => (match (rdL st v).bind asInts with
    | some (n :: ns) => .ok (.dat (.int (mxI (n :: ns)))) st
    | _ => .bad)
  | _ => .bad
def gMin (vs : List DV) (st : List Cell) : ER DV := match vs with
  | [v] => (match (rdL st v).bind asInts with
    | some (n :: ns) => .ok (.dat (.int (mnI (n :: ns)))) st
    | _ => .bad)
  | _ => .bad
def gSum (vs : List DV) (st : List Cell) : ER DV := match vs with
  | [v] => (match (rdL st v).bind asInts with
    | some ns => .ok (.dat (.int ns.sum)) st
    | _ => .bad)
  | _ => .bad
theorem ints_rd {w : Wd} {H : Hp} {st : List Cell} {x : V} {v : DV} {ns : List Int} (S : Sto R w H st) (r : DvR R w x v) (e : (rdL st v).bind asInts = some ns) : ∃ a, x = .ref a ∧ SqL R.K H a (ns.map V.int) := by
  cases e1 : rdL st v with
  | none => rw [e1] at e; cases e
  | some xs =>
    rw [e1] at e
    obtain ⟨a, vs, rfl, h1, h2⟩ := rdL_ok S r e1
    have e2 : asInts xs = some ns := e
    rw [asInts_eq e2] at h2
    rw [DtAll.of_ints h2] at h1
    exact ⟨a, rfl, h1⟩
theorem cm_max : CallMt R (rMax R.K) gMax := by
  intro W σ w H st xs vs Q S r P
  unfold gMax at P
  split at P
  · cases r with
    | cons h1 h2 =>
      cases h2
      split at P
      · rename_i n ns e
        obtain ⟨a, rfl, hs⟩ := ints_rd S h1 e
        exact ⟨a, n :: ns, rfl, hs, by simp, fun m m1 m2 => by rw [mxI_eq m1 m2]; exact P.here S (.int _)⟩
      · exact P.elim
  · exact P.elim
theorem cm_min : CallMt R (rMin R.K) gMin := by
  intro W σ w H st xs vs Q S r P
  unfold gMin at P
  split at P
  · cases r with
    | cons h1 h2 =>
      cases h2
      split at P
      · rename_i n ns e
        obtain ⟨a, rfl, hs⟩ := ints_rd S h1 e
        exact ⟨a, n :: ns, rfl, hs, by simp, fun m m1 m2 => by rw [mnI_eq m1 m2]; exact P.here S (.int _)⟩
      · exact P.elim
  · exact P.elim
theorem cm_sum : CallMt R (rSum R.K) gSum := by
  intro W σ w H st xs vs Q S r P
  unfold gSum at P
  split at P
  · cases r with
    | cons h1 h2 =>
      cases h2
      split at P
      · rename_i ns e
        obtain ⟨a, rfl, hs⟩ := ints_rd S h1 e
        exact ⟨a, ns, rfl, hs, P.here S (.int _)⟩
      · exact P.elim
  · exact P.elim
theorem de_max (C : Ct R X W k) {p pos : Pos} {e : Expr} {fa : EF} (hm : X.mg "max" = none) (ha : DE R X W e fa) (hg : Gl X "max" := by rfl) (he : starEach [e] X.env = (false, eval e X.env) :: starEach [] X.env := by rfl) :
    DE R X W (.Call (.Name "max" p) [e] [] pos) (dCB gMax (dCons fa dNil)) := by
  have h := cr_max (X := X) C.calm
  rw [C.hK] at h
  exact de_callB h cm_max hm (by decide +kernel) (da_cons ha da_nil he) hg (he := he)
theorem de_min (C : Ct R X W k) {p pos : Pos} {e : Expr} {fa : EF} (hm : X.mg "min" = none) (ha : DE R X W e fa) (hg : Gl X "min" := by rfl) (he : starEach [e] X.env = (false, eval e X.env) :: starEach [] X.env := by rfl) :
    DE R X W (.Call (.Name "min" p) [e] [] pos) (dCB gMin (dCons fa dNil)) := by
  have h := cr_min (X := X) C.calm
  rw [C.hK] at h
  exact de_callB h cm_min hm (by decide +kernel) (da_cons ha da_nil he) hg (he := he)
theorem de_sum (C : Ct R X W k) {p pos : Pos} {e : Expr} {fa : EF} (hm : X.mg "sum" = none) (ha : DE R X W e fa) (hg : Gl X "sum" := by rfl) (he : starEach [e] X.env = (false, eval e X.env) :: starEach [] X.env := by rfl) :
    DE R X W (.Call (.Name "sum" p) [e] [] pos) (dCB gSum (dCons fa dNil)) := by
  have h := cr_sum (X := X) C.calm
  rw [C.hK] at h
  exact de_callB h cm_sum hm (by decide +kernel) (da_cons ha da_nil he) hg (he := he)
/-- all, any of a list of truths -/
def gAllB (vs : List DV) (st : List Cell) : ER DV := match vs with
  | [v] => (match (rdL st v).bind asBools with
    | some bs => .ok (.dat (.bool (bs.all id))) st
    | _ => .bad)
  | _ => .bad
def gAnyB (vs : List DV) (st : List Cell) : ER DV := match vs with
  | [v] => (match (rdL st v).bind asBools with
    | some bs => .ok (.dat (.bool (bs.any id))) st
    | _ => .bad)
  | _ => .bad
theorem bools_rd {w : Wd} {H : Hp} {st : List Cell} {x : V} {v : DV} {ns : List Bool} (S : Sto R w H st) (r : DvR R w x v) (e : (rdL st v).bind asBools = some ns) : ∃ a, x = .ref a ∧ SqL R.K H a (ns.map V.bl) := by
  cases e1 : rdL st v with
  | none => rw [e1] at e; cases e
  | some xs =>
    rw [e1] at e
    obtain ⟨a, vs, rfl, h1, h2⟩ := rdL_ok S r e1
    have e2 : asBools xs = some ns := e
    rw [asBools_eq e2] at h2
    rw [DtAll.of_bools h2] at h1
    exact ⟨a, rfl, h1⟩
theorem cm_all : CallMt R (rAll R.K) gAllB := by
  intro W σ w H st xs vs Q S r P
  unfold gAllB at P
  split at P
  · cases r with
    | cons h1 h2 =>
      cases h2
      split at P
      · rename_i ns e
        obtain ⟨a, rfl, hs⟩ := bools_rd S h1 e
        exact ⟨a, ns, rfl, hs, P.here S (.bl _)⟩
      · exact P.elim
  · exact P.elim
theorem cm_any : CallMt R (rAny R.K) gAnyB := by
  intro W σ w H st xs vs Q S r P
  unfold gAnyB at P
  split at P
  · cases r with
    | cons h1 h2 =>
      cases h2
      split at P
      · rename_i ns e
        obtain ⟨a, rfl, hs⟩ := bools_rd S h1 e
        exact ⟨a, ns, rfl, hs, P.here S (.bl _)⟩
      · exact P.elim
  · exact P.elim
theorem de_all (C : Ct R X W k) {p pos : Pos} {e : Expr} {fa : EF} (hm : X.mg "all" = none) (ha : DE R X W e fa) (hg : Gl X "all" := by rfl) (he : starEach [e] X.env = (false, eval e X.env) :: starEach [] X.env := by rfl) :
    DE R X W (.Call (.Name "all" p) [e] [] pos) (dCB gAllB (dCons fa dNil)) := by
  have h := cr_all (X := X) C.calm
  rw [C.hK] at h
  exact de_callB h cm_all hm (by decide +kernel) (da_cons ha da_nil he) hg (he := he)
theorem de_any (C : Ct R X W k) {p pos : Pos} {e : Expr} {fa : EF} (hm : X.mg "any" = none) (ha : DE R X W e fa) (hg : Gl X "any" := by rfl) (he : starEach [e] X.env = (false, eval e X.env) :: starEach [] X.env := by rfl) :
    DE R X W (.Call (.Name "any" p) [e] [] pos) (dCB gAnyB (dCons fa dNil)) := by
  have h := cr_any (X := X) C.calm
  rw [C.hK] at h
  exact de_callB h cm_any hm (by decide +kernel) (da_cons ha da_nil he) hg (he := he)
/-- sorted of a short list of ints -/
def gSorted (mk : Bool) (vs : List DV) (st : List Cell) : ER DV := match vs with
  | [v] => (match (rdL st v).bind asInts with
    | some ns => if ns.length < 64 then newL mk ((srtI ns).map PyData.int) st else .bad
    | _ => .bad)
  | _ => .bad
theorem cm_sorted (mk : Bool) : CallMt R (rSorted R.K) (gSorted mk) := by
  intro W σ w H st xs vs Q S r P
  unfold gSorted at P
  split at P
  · cases r with
    | cons h1 h2 =>
      cases h2
      split at P
      · rename_i ns e
        split at P
        · rename_i hz
          obtain ⟨a, rfl, hs⟩ := ints_rd S h1 e
          refine ⟨a, ns, rfl, hs, hz, fun ms p pm ps hp => ?_⟩
          rw [PySem.W.ksm_same (pm.trans (srtI_perm ns).symm) ps (srtI_sorted ns)]
          exact new_lst S (DtAll.ints _) P hp
        · exact P.elim
      · exact P.elim
  · exact P.elim
theorem de_sorted (C : Ct R X W k) (mk : Bool) {p pos : Pos} {e : Expr} {fa : EF} (hm : X.mg "sorted" = none) (ha : DE R X W e fa) (hg : Gl X "sorted" := by rfl) (he : starEach [e] X.env = (false, eval e X.env) :: starEach [] X.env := by rfl) :
    DE R X W (.Call (.Name "sorted" p) [e] [] pos) (dCB (gSorted mk) (dCons fa dNil)) := by
  have h := cr_sorted (X := X)
  rw [C.hK] at h
  exact de_callB h (cm_sorted mk) hm (by decide +kernel) (da_cons ha da_nil he) hg (he := he)
/-- list(..), tuple(..) -/
def gList (mk : Bool) (vs : List DV) (st : List Cell) : ER DV := match vs with
  | [v] => (match (rdL st v).or (rdT v) with
    | some ds => newL mk ds st
    | none => .bad)
  | _ => .bad
theorem cm_list (mk : Bool) : CallMt R (fun xs H Q => ∃ p ys, xs = [.ref p] ∧ (SqL R.K H p ys ∨ SqT R.K H p ys) ∧ ∀ l, H l = none → Q (.ref l) (upd H l (.lst ys))) (gList mk) := by
  intro W σ w H st xs vs Q S r P
  unfold gList at P
  split at P
  · cases r with
    | cons h1 h2 =>
      cases h2
      split at P
      · rename_i ds e
        obtain ⟨a, ws, rfl, h2, h3⟩ := rdLT_ok S h1 e
        exact ⟨a, ws, rfl, h2, fun l hl => new_lst S h3 P hl⟩
      · exact P.elim
  · exact P.elim
theorem de_list (C : Ct R X W k) (mk : Bool) {p pos : Pos} {e : Expr} {fa : EF} (hm : X.mg "list" = none) (ha : DE R X W e fa) (hg : Gl X "list" := by rfl) (he : starEach [e] X.env = (false, eval e X.env) :: starEach [] X.env := by rfl) :
    DE R X W (.Call (.Name "list" p) [e] [] pos) (dCB (gList mk) (dCons fa dNil)) := by
  have h := call_list_of (X := X)
  rw [C.hK] at h
  exact de_callTy h (cm_list mk) hm (by decide +kernel) (da_cons ha da_nil he) hg (he := he)
def gTuple (vs : List DV) (st : List Cell) : ER DV := match vs with
  | [.dat (.tuple ds)] => .ok (.dat (.tuple ds)) st
  | [v] => (match rdL st v with
    | some ds => .ok (.dat (.tuple ds)) st
    | none => .bad)
  | _ => .bad
theorem cm_tuple : CallMt R (fun xs H Q => ∃ p ys, xs = [.ref p] ∧ ((SqL R.K H p ys ∧ ∀ l, H l = none → Q (.ref l) (upd H l (.tup ys))) ∨ (SqT R.K H p ys ∧ Q (.ref p) H))) gTuple := by
  intro W σ w H st xs vs Q S r P
  unfold gTuple at P
  split at P
  · cases r with
    | cons h1 h2 =>
      cases h2
      rename_i ds _
      obtain ⟨a, ws, rfl, h2, h3⟩ := rdT_ok (v := .dat (.tuple ds)) S h1 rfl
      exact ⟨a, ws, rfl, .inr ⟨h2, P.here S h1⟩⟩
  · cases r with
    | cons h1 h2 =>
      cases h2
      split at P
      · rename_i e1
        obtain ⟨a, ws, rfl, h2, h3⟩ := rdL_ok S h1 e1
        exact ⟨a, ws, rfl, .inl ⟨h2, fun l hl => new_tup S h3 P hl⟩⟩
      · exact P.elim
  · exact P.elim
theorem de_tuple (C : Ct R X W k) {p pos : Pos} {e : Expr} {fa : EF} (hm : X.mg "tuple" = none) (ha : DE R X W e fa) (hg : Gl X "tuple" := by rfl) (he : starEach [e] X.env = (false, eval e X.env) :: starEach [] X.env := by rfl) :
    DE R X W (.Call (.Name "tuple" p) [e] [] pos) (dCB gTuple (dCons fa dNil)) := by
  have h := call_tuple_of (X := X)
  rw [C.hK] at h
  exact de_callTy h cm_tuple hm (by decide +kernel) (da_cons ha da_nil he) hg (he := he)
/-- int of a truth or an int; abs; str of an int -/
def gInt (vs : List DV) (st : List Cell) : ER DV := match vs with
  | [.dat (.int i)] => .ok (.dat (.int i)) st
  | [.dat (.bool b)] => .ok (.dat (.int (if b then 1 else 0))) st
  | _ => .bad
theorem cm_int : CallMt R (fun xs H Q => (∃ i, xs = [.int i] ∧ Q (.int i) H) ∨ ∃ k, xs = [.bl k] ∧ Q (.int (if k then 1 else 0)) H) gInt := by
  intro W σ w H st xs vs Q S r P
  unfold gInt at P
  split at P
  · cases r with
    | cons h1 h2 => cases h2; cases h1; exact .inl ⟨_, rfl, P.here S (.int _)⟩
  · cases r with
    | cons h1 h2 => cases h2; cases h1; exact .inr ⟨_, rfl, P.here S (.int _)⟩
  · exact P.elim
theorem de_intc {p pos : Pos} {e : Expr} {fa : EF} (hm : X.mg "int" = none) (ha : DE R X W e fa) (hg : Gl X "int" := by rfl) (he : starEach [e] X.env = (false, eval e X.env) :: starEach [] X.env := by rfl) :
    DE R X W (.Call (.Name "int" p) [e] [] pos) (dCB gInt (dCons fa dNil)) := de_callTy call_int1 cm_int hm (by decide +kernel) (da_cons ha da_nil he) hg (he := he)
def gAbs (vs : List DV) (st : List Cell) : ER DV := match vs with
  | [.dat (.int i)] => .ok (.dat (.int (if i < 0 then -i else i))) st
  | _ => .bad
theorem cm_abs : CallMt R (fun xs H Q => ∃ i, xs = [.int i] ∧ Q (.int (if i < 0 then -i else i)) H) gAbs := by
  intro W σ w H st xs vs Q S r P
  unfold gAbs at P
  split at P
  · cases r with
    | cons h1 h2 => cases h2; cases h1; exact ⟨_, rfl, P.here S (.int _)⟩
  · exact P.elim
theorem de_abs {p pos : Pos} {e : Expr} {fa : EF} (hm : X.mg "abs" = none) (ha : DE R X W e fa) (hg : Gl X "abs" := by rfl) (he : starEach [e] X.env = (false, eval e X.env) :: starEach [] X.env := by rfl) :
    DE R X W (.Call (.Name "abs" p) [e] [] pos) (dCB gAbs (dCons fa dNil)) := de_callB call_abs cm_abs hm (by decide +kernel) (da_cons ha da_nil he) hg (he := he)
/-! ### truth -/
def truD (st : List Cell) : DV → Option Bool
  | .dat .none => some false
  | .dat (.bool b) => some b
  | .dat (.int i) => some (i != 0)
  | .dat (.tuple xs) => some (!xs.isEmpty)
  | v => (rdL st v).map fun xs => !xs.isEmpty
def dTru (f : EF) : TF := fun δ st => (f δ st).bd fun v st1 => match truD st1 v with
  | some b => .ok b st1
  | none => .bad
theorem dtAll_empty {K : PySem.W.Frag} {F : Hp} {vs : List V} {ds : List PyData} (h : DtAll K F vs ds) : (!vs.isEmpty) = !ds.isEmpty := by cases h <;> rfl
theorem dt_tru (C : Ct R X W k) {a : Expr} {f : EF} (h : DE R X W a f) (he : ∀ whole, isTrue a X.env whole = (do let v ← whole; standAt a.pos; holding [v] (truthy v)) := by intro _; rfl) : DT R X W a (dTru f) := by
  obtain ⟨t, p, m⟩ := h
  refine ⟨_, pt_truth p he, fun w H σ δ st Q S L P => ?_⟩
  refine m.seq S L P fun v st1 x H1 w1 l1 S1 L1 r1 P1 => ?_
  split at P1
  · rename_i b e
    refine ⟨b, ?_, P1.here S1 rfl⟩
    rw [C.hK]
    unfold truD at e
    split at e
    · cases e; cases r1; exact rfl
    · cases e; cases r1; exact rfl
    · cases e; cases r1; exact rfl
    · cases e
      rename_i xs
      obtain ⟨a, vs, rfl, h1, h2⟩ := rdT_ok (v := .dat (.tuple xs)) S1 r1 rfl
      exact .inr (.inl ⟨vs, h1, (dtAll_empty h2).symm⟩)
    · cases e1 : rdL st1 v with
      | none => rw [e1] at e; cases e
      | some xs =>
        rw [e1] at e
        cases e
        obtain ⟨a, vs, rfl, h1, h2⟩ := rdL_ok S1 r1 e1
        exact .inl ⟨vs, h1, (dtAll_empty h2).symm⟩
  · exact P1.elim
/-! ### three comparisons in a chain -/
def tChain3 (r r' r'' : R2) (ta tb tc td : TE) : TE := fun σ H Q => ta σ H fun x H1 => tb σ H1 fun y H2 => r x y H2 fun z H3 => ∃ k, z = .bl k ∧
  (if k = true then tc σ H3 fun u H4 => r' y u H4 fun z' H5 => ∃ k', z' = .bl k' ∧ (if k' = true then td σ H5 fun v H6 => r'' u v H6 Q else Q (.bl false) H5) else Q (.bl false) H3)
theorem pt_chain3 {a b c d : Expr} {pos : Pos} {ta tb tc td : TE} {op op' op'' : CmpOp} {r r' r'' : R2} (ho : OpR X (compareOp op) r) (ho' : OpR X (compareOp op') r') (ho'' : OpR X (compareOp op'') r'') (ha : PE X a ta) (hb : PE X b tb) (hc : PE X c tc) (hd : PE X d td)
    (hm : lastMarks [op, op', op''] [b, c, d] = false := by with_unfolding_all rfl) : PT X (.Compare a [op, op', op''] [b, c, d] pos) (tTest (tChain3 r r' r'' ta tb tc td)) := by
  refine ⟨fun pins s σ H Q I h => ?_⟩
  refine isTrue_chain (thn (ha.run pins s σ H _ I h) fun v s1 ⟨x, H1, I1, r1, q1⟩ => test_link (thn (hb.run pins s1 σ H1 _ I1 q1) fun u s2 ⟨y, H2, I2, r2, q2⟩ =>
    thn (ho pins s2 σ H2 x y v u _ I2 r1 r2 q2) fun e s3 ⟨z, H3, I3, r3, k, ek, q3⟩ => ?_)) hm
  subst ek
  cases r3
  refine wpAny_truthy_bool ?_
  cases k with
  | false =>
    obtain ⟨k', e', q'⟩ := q3
    cases e'
    exact ite_ff ⟨H3, I3, q'⟩
  | true =>
    refine ite_tt (test_link (thn (hc.run pins s3 σ H3 _ I3 q3) fun u' s4 ⟨y', H4, I4, r4, q4⟩ => thn (ho' pins s4 σ H4 y y' u u' _ I4 r2 r4 q4) fun e' s5 ⟨z', H5, I5, r5, k', ek', q5⟩ => ?_))
    subst ek'
    cases r5
    refine wpAny_truthy_bool ?_
    cases k' with
    | false =>
      obtain ⟨k2, e2, q'⟩ := q5
      cases e2
      exact ite_ff ⟨H5, I5, q'⟩
    | true =>
      refine ite_tt (test_last (thn (hd.run pins s5 σ H5 _ I5 q5) fun u'' s6 ⟨y'', H6, I6, r6, q6⟩ => thn (ho'' pins s6 σ H6 y' y'' u' u'' _ I6 r4 r6 q6) fun e'' s7 ⟨z'', H7, I7, r7, k2, ek2, q7⟩ => ?_))
      subst ek2
      cases r7
      exact wpAny_truthy_bool ⟨H7, I7, q7⟩
theorem pe_chain3 {a b c d : Expr} {pos : Pos} {ta tb tc td : TE} {op op' op'' : CmpOp} {r r' r'' : R2} (ho : OpR X (compareOp op) r) (ho' : OpR X (compareOp op') r') (ho'' : OpR X (compareOp op'') r'') (ha : PE X a ta) (hb : PE X b tb) (hc : PE X c tc) (hd : PE X d td)
    (hm : lastMarks [op, op', op''] [b, c, d] = false := by with_unfolding_all rfl) : PE X (.Compare a [op, op', op''] [b, c, d] pos) (tChain3 r r' r'' ta tb tc td) := by
  refine ⟨fun pins s σ H Q I h => ?_⟩
  refine Compare_chain (thn (ha.run pins s σ H _ I h) fun v s1 ⟨x, H1, I1, r1, q1⟩ => chain_link (thn (hb.run pins s1 σ H1 _ I1 q1) fun u s2 ⟨y, H2, I2, r2, q2⟩ =>
    thn (ho pins s2 σ H2 x y v u _ I2 r1 r2 q2) fun e s3 ⟨z, H3, I3, r3, k, ek, q3⟩ => ?_)) hm
  subst ek
  cases r3
  refine wpAny_truthy_bool ?_
  cases k with
  | false => exact ite_ff ⟨.bl false, H3, I3, rfl, q3⟩
  | true =>
    refine ite_tt (chain_link (thn (hc.run pins s3 σ H3 _ I3 q3) fun u' s4 ⟨y', H4, I4, r4, q4⟩ => thn (ho' pins s4 σ H4 y y' u u' _ I4 r2 r4 q4) fun e' s5 ⟨z', H5, I5, r5, k', ek', q5⟩ => ?_))
    subst ek'
    cases r5
    refine wpAny_truthy_bool ?_
    cases k' with
    | false => exact ite_ff ⟨.bl false, H5, I5, rfl, q5⟩
    | true => exact ite_tt (chain_last (thn (hd.run pins s5 σ H5 _ I5 q5) fun u'' s6 ⟨y'', H6, I6, r6, q6⟩ => ho'' pins s6 σ H6 y' y'' u' u'' Q I6 r4 r6 q6))
def dChain3 (g h i : DV → DV → List Cell → ER DV) (fa fb fc fd : EF) : EF := fun δ st => (fa δ st).bd fun a st1 => (fb δ st1).bd fun b st2 => dB (g a b st2) fun k st3 =>
  if k = true then (fc δ st3).bd fun c st4 => dB (h b c st4) fun k' st5 => (if k' = true then (fd δ st5).bd fun d st6 => i c d st6 else .ok (.dat (.bool false)) st5) else .ok (.dat (.bool false)) st3
theorem OpMt.seqB {r : R2} {g : DV → DV → List Cell → ER DV} (hg : OpMt R r g) {w : Wd} {H : Hp} {σ : St} {st : List Cell} {x y : V} {a b : DV} {Q : VK} {gg : Bool → List Cell → ER DV} {Q1 : VK} (S : Sto R w H st) (ra : DvR R w x a) (rb : DvR R w y b) (P : Post R W w σ (DvR R) Q (dB (g a b st) gg))
    (kk : ∀ c st1 H1 w1, w.le w1 → Sto R w1 H1 st1 → Post R W w1 σ (DvR R) Q (gg c st1) → Q1 (.bl c) H1) : r x y H Q1 := by
  refine hg W σ w H st x y a b _ S ra rb ?_
  unfold dB at P
  cases e : g a b st with
  | bad => rw [e] at P; exact P.elim
  | rs c st3 => rw [e] at P; exact P
  | ok z st3 =>
    rw [e] at P
    intro zv H3 w3 l3 S3 r3
    cases z with
    | dat d =>
      cases d with
      | bool b => cases r3; exact kk b st3 H3 w3 l3 S3 (Post.mono l3 P)
      | _ => exact P.elim
    | _ => exact P.elim
theorem mt_chain3 {r r' r'' : R2} {g h i : DV → DV → List Cell → ER DV} {ta tb tc td : TE} {fa fb fc fd : EF} (hg : OpMt R r g) (hh : OpMt R r' h) (hi : OpMt R r'' i) (ha : MtE R W ta fa) (hb : MtE R W tb fb) (hc : MtE R W tc fc) (hd : MtE R W td fd) :
    MtE R W (tChain3 r r' r'' ta tb tc td) (dChain3 g h i fa fb fc fd) := by
  intro w H σ δ st Q S L P
  refine ha.seq S L P fun v st1 x H1 w1 l1 S1 L1 r1 P1 => ?_
  refine hb.seq S1 L1 P1 fun u st2 y H2 w2 l2 S2 L2 r2 P2 => ?_
  refine hg.seqB S2 (r1.mono l2) r2 P2 fun c st3 H3 w3 l3 S3 P3 => ⟨c, rfl, ?_⟩
  cases c with
  | false => exact P3.here S3 (.bl false)
  | true =>
    refine hc.seq S3 (L2.mono l3) P3 fun z st4 zz H4 w4 l4 S4 L4 r4 P4 => ?_
    refine hh.seqB S4 ((r2.mono l3).mono l4) r4 P4 fun c st5 H5 w5 l5 S5 P5 => ⟨c, rfl, ?_⟩
    cases c with
    | false => exact P5.here S5 (.bl false)
    | true =>
      refine hd.seq S5 (L4.mono l5) P5 fun z' st6 zz' H6 w6 l6 S6 L6 r6 P6 => ?_
      exact hi W σ w6 H6 st6 zz zz' z z' Q S6 ((r4.mono l5).mono l6) r6 P6
theorem dt_chain3 {a b c d : Expr} {op op' op'' : CmpOp} {pos : Pos} {r r' r'' : R2} {g h i : DV → DV → List Cell → ER DV} {fa fb fc fd : EF} (ho : OpR X (compareOp op) r) (hg : OpMt R r g) (ho' : OpR X (compareOp op') r') (hh : OpMt R r' h) (ho'' : OpR X (compareOp op'') r'') (hi : OpMt R r'' i)
    (ha : DE R X W a fa) (hb : DE R X W b fb) (hc : DE R X W c fc) (hd : DE R X W d fd) (hm : lastMarks [op, op', op''] [b, c, d] = false := by with_unfolding_all rfl) : DT R X W (.Compare a [op, op', op''] [b, c, d] pos) (dT (dChain3 g h i fa fb fc fd)) := by
  obtain ⟨ta, pa, ma⟩ := ha
  obtain ⟨tb, pb, mb⟩ := hb
  obtain ⟨tc, pc, mc⟩ := hc
  obtain ⟨td, pd, md⟩ := hd
  exact ⟨_, pt_chain3 ho ho' ho'' pa pb pc pd hm, mt_test (mt_chain3 hg hh hi ma mb mc md)⟩
theorem de_chain3 {a b c d : Expr} {op op' op'' : CmpOp} {pos : Pos} {r r' r'' : R2} {g h i : DV → DV → List Cell → ER DV} {fa fb fc fd : EF} (ho : OpR X (compareOp op) r) (hg : OpMt R r g) (ho' : OpR X (compareOp op') r') (hh : OpMt R r' h) (ho'' : OpR X (compareOp op'') r'') (hi : OpMt R r'' i)
    (ha : DE R X W a fa) (hb : DE R X W b fb) (hc : DE R X W c fc) (hd : DE R X W d fd) (hm : lastMarks [op, op', op''] [b, c, d] = false := by with_unfolding_all rfl) : DE R X W (.Compare a [op, op', op''] [b, c, d] pos) (dChain3 g h i fa fb fc fd) := by
  obtain ⟨ta, pa, ma⟩ := ha
  obtain ⟨tb, pb, mb⟩ := hb
  obtain ⟨tc, pc, mc⟩ := hc
  obtain ⟨td, pd, md⟩ := hd
  exact ⟨_, pe_chain3 ho ho' ho'' pa pb pc pd hm, mt_chain3 hg hh hi ma mb mc md⟩
/-! ### methods of lists -/
def MtdMt (R : Rx) (r : V → List V → Hp → VK → Prop) (g : DV → List DV → List Cell → ER DV) : Prop := ∀ (W : WX) (σ : St) (w : Wd) (H : Hp) (st : List Cell) (x : V) (xs : List V) (v : DV) (vs : List DV) (Q : VK), Sto R w H st → DvR R w x v → DvsR R w xs vs → Post R W w σ (DvR R) Q (g v vs st) → r x xs H Q
def dMtd (g : DV → List DV → List Cell → ER DV) (fo : EF) (fa : AF) : EF := fun δ st => (fo δ st).bd fun v st1 => if (rdL st1 v).isSome = true then (fa δ st1).bd fun vs st2 => g v vs st2 else .bad
theorem de_mtd (C : Ct R X W k) {id : String} {name : Str} {r : V → List V → Hp → VK → Prop} {g : DV → List DV → List Cell → ER DV} {o e : Expr} {es : List Expr} {p pos : Pos} {fo : EF} {fa : AF} (slot : Slot "list" name id) (hty : typeOf (.builtin id) = pure (.type "method_descriptor")) (hm : MtR X id r) (h : MtdMt R r g)
    (ho : DE R X W o fo) (ha : DA R X W (e :: es) fa) (hpe : ∀ to t, PE X o to → PA X (e :: es) t → PE X (.Call (.Attribute o name p) (e :: es) [] pos) (tBM X.K "list" r to t)) : DE R X W (.Call (.Attribute o name p) (e :: es) [] pos) (dMtd g fo fa) := by
  obtain ⟨to, po, mo⟩ := ho
  obtain ⟨t, pa, m⟩ := ha
  refine ⟨_, hpe to t po pa, fun w H σ δ st Q S L P => ?_⟩
  refine mo.seq S L P fun v st1 x H1 w1 l1 S1 L1 r1 P1 => ?_
  split at P1
  · rename_i hs
    obtain ⟨xs, e1⟩ := Option.isSome_iff_exists.mp hs
    obtain ⟨a, ws, rfl, h1, h2⟩ := rdL_ok S1 r1 e1
    refine ⟨.inl ⟨rfl, ws, by rw [C.hK]; exact h1⟩, ?_⟩
    refine m.seq S1 L1 P1 fun vs st2 ys H2 w2 l2 S2 L2 r2 P2 => ?_
    exact h W σ w2 H2 st2 _ ys v vs Q S2 (r1.mono l2) r2 P2
  · exact P1.elim
/-- xs.append(y) -/
def mAppend (v : DV) (vs : List DV) (st : List Cell) : ER DV := match v, vs with
  | .ptr i, [y] => (frzV y st).bx fun d st1 => (match st1[i]? with
    | some (.mu xs) => if xs.length < 1000000 then .ok (.dat .none) (st1.set i (.mu (xs ++ [d]))) else .bad
    | _ => .bad)
  | _, _ => .bad
theorem mm_append : MtdMt R rAppend mAppend := by
  intro W σ w H st x ys v vs Q S rv r P
  unfold mAppend at P
  split at P
  · rename_i i y
    cases r with
    | cons h1 h2 =>
      cases h2
      cases e : frzV y st with
      | bad => rw [e] at P; exact P.elim
      | rs c s => rw [e] at P; exact P.elim
      | ok d st1 =>
        rw [e] at P
        obtain ⟨w1, l1, S1, hd⟩ := frzV_ok S h1 e
        have P1 : Post R W w σ (DvR R) Q (match st1[i]? with
          | some (.mu xs) => if xs.length < 1000000 then .ok (.dat .none) (st1.set i (.mu (xs ++ [d]))) else .bad
          | _ => .bad) := P
        obtain ⟨a, ea, rfl⟩ := rv.mono (v := .ptr i) l1
        split at P1
        · rename_i xs e2
          split at P1
          · rename_i hz
            obtain ⟨a', ws, ea', hH, ha, _⟩ := S1.lst e2
            rw [ea] at ea'; cases ea'
            refine ⟨a, ws, _, rfl, rfl, hH, by rw [ha.length, sizeLine_eq]; omega, ?_⟩
            exact (Post.mono l1 P1).here (S1.put e2 ea (DtAll.append ha (.cons hd .nil))) .non
          · exact P1.elim
        · exact P1.elim
  · exact P.elim
theorem de_append (C : Ct R X W k) {o e : Expr} {p pos : Pos} {fo fe : EF} (ho : DE R X W o fo) (he : DE R X W e fe) (hs : starEach [e] X.env = (false, eval e X.env) :: starEach [] X.env := by rfl) (hpl : ∀ to t, PE X o to → PA X [e] t → PE X (.Call (.Attribute o "append" p) [e] [] pos) (tBM X.K "list" rAppend to t) := by exact fun to t ho ha => pe_bm PySem.F.plainAttrs_list PySem.F.slot_list_append PySem.F.type_list_append mt_append ho ha) :
    DE R X W (.Call (.Attribute o "append" p) [e] [] pos) (dMtd mAppend fo (dCons fe dNil)) := de_mtd C PySem.F.slot_list_append PySem.F.type_list_append mt_append mm_append ho (da_cons he da_nil hs) hpl
end
end WB

set_option maxRecDepth 100000
set_option maxHeartbeats 4000000
namespace WB
open PySem PySem.Spec PyProof.Rows L2

/-- an object of ours that is not tracked yet, and was not there at the entry, is tracked from now on -/
theorem inv_track {X : Cx} {pins : List (Addr × Obj)} {σ : St} {H : Hp} {s : Shared} {a : Addr} {o : HO} (I : Inv X pins σ H s) (hn : H a = none) (h0 : X.s_0.heap.get? a = none) (hL : a ≠ X.env.locals)
    (hC : ∀ y c, X.env.cells.lookup y = some c → c ≠ a) (hP : ∀ p ∈ X.pn ++ pins, p.1 ≠ a) (new : ObjOk X.prog X.w (upd H a o) s.heap a o) : Inv X pins σ (upd H a o) s := by
  have ne0 : ∀ b u, X.s_0.heap.get? b = some u → b ≠ a := fun b u e z => by rw [z, h0] at e; cases e
  have neH : ∀ b u, H b = some u → b ≠ a := fun b u e z => by rw [z, hn] at e; cases e
  refine ⟨I.ok, I.os, I.bare, ⟨I.base.keep, I.base.slot, fun b u e n hx => ?_, I.base.there, fun b xs e => ?_, fun b u v e => ?_, fun b ps e => ?_⟩, I.loc, I.cell, ?_, fun y c e => ?_, fun p hp => ?_, I.hok.laidN (fun _ _ q => q) hn new, I.len⟩
  · rw [upd_ne (ne0 b u e)]; exact I.base.free b u e n hx
  · have q := I.base.tups b xs e
    rw [upd_ne (neH b _ q)]; exact q
  · have q := I.base.frzs b u v e
    rw [upd_ne (neH b _ q)]; exact q
  · obtain ⟨m, q⟩ := I.base.tbls b ps e
    exact ⟨m, by rw [upd_ne (neH b _ q)]; exact q⟩
  · rw [upd_ne (Ne.symm hL)]; exact I.free
  · rw [upd_ne (hC y c e)]; exact I.freeC y c e
  · obtain ⟨q1, q2, q3, q4, q5⟩ := I.pin p hp
    exact ⟨q1, by rw [upd_ne (hP p hp)]; exact q2, q3, q4, q5⟩

/-- what the clause wishes of an error of the body: it is of the class; the name j holds it behind the clause -/
def wCatch (K : PySem.W.Frag) (c : Value) (i j : Nat) (D : Ends) : WX := fun cls d σ H =>
  ∃ Ca : Addr, cls = .ref Ca ∧ d = none ∧ PySem.W.exmOne K cls c = some true ∧ ∀ a, H a = none → D.nx (((σ.set i (some (.ref a))).set j (some (.ref a))).set i none) (upd H a (ExW Ca a))
section
variable {X : Cx} {x n y : Str} {c : Value} {i j : Nat} {body : List Stmt} {np pos pos' pn1 pn2 pa : Pos} {tb : WX → TS}
/-- try: body / except x as n: y = n -/
theorem ps_catch (hstk : X.stack = X.env :: X.outer) (hfrm : X.env.frame = some X.env.locals) (hex : X.ex = []) (nd : X.N.Nodup) (hi : X.N[i]? = some n) (hln : X.env.kindOf n = some .local) (hj : X.N[j]? = some y) (hyl : X.env.kindOf y = some .local) (hc : Names X x c)
    (hd1 : (n == ("__debug__" : Str)) = false) (hd2 : (n == ("__classdict__" : Str)) = false) (hsw : swapsWith (.Name n pn2) (some (.Name y pn1)) pa.line X.env = pure false)
    (hb : ∀ (W : WX) (pn : List (Addr × Obj)) (xe : Value → Shared → Prop), Takes (X.tr pn xe) W → PassesOwn (model X.prog X.w) X.A X.env xe → PSs (X.tr pn xe) body (tb W)) :
    PS X (.Try body [.ExceptHandler (some (.Name x np)) (some n) [.Assign [.Name y pn1] (.Name n pn2) pa] pos'] [] [] pos) (fun D σ H => tb (wCatch X.K c i j D) D σ H) := by
  refine ⟨fun pins s σ H D I h => ?_⟩
  have xok := I.ok
  have frm : X.A.frames = some (X.env :: X.outer) := by rw [xok.frames, hstk]
  refine wpAny_Try_except ?_
  have run := (hb (wCatch X.K c i j D) (X.pn ++ pins) (fun e t₁ => wpAny (model X.prog X.w) X.A (noteFrame e X.env) (fun _ t₂ => wpAny (model X.prog X.w) X.A (setFlight e none) (fun _ t₃ =>
    wpAny (model X.prog X.w) X.A (handleBy e X.env [.ExceptHandler (some (.Name x np)) (some n) [.Assign [.Name y pn1] (.Name n pn2) pa] pos']) (SP X pins D) X.xe t₃) X.xe t₂) X.xe t₁) ?tk PassesOwn.looking).run [] s σ H D (I.toTry _) h
  case tk =>
    intro u t cc
    obtain ⟨a, B, sI, pins', σ1, H1, cls, d, rfl, J0, nb, up, sky, na, os, ag, Ca, rfl, rfl, hb1, nxt⟩ := cc
    have J : Inv X pins σ1 H1 sI := J0.ofTry xok
    have sky1 : Sky B (X.env :: X.outer) a (Zc (.ref Ca) none) X.env.locals t.heap := by
      rw [← hstk]
      exact sky
    have Ba : B.get? a = none := by
      rcases sky1 with z | z | z
      · exact z.2.1
      · exact z.2.1
      · exact z.2.1
    show wpAny (model X.prog X.w) X.A (noteFrame (.ref a) X.env) _ _ _
    refine Sky.land Zc.steady frm hfrm sky1 fun g3 fl3 up3 => ?_
    have J3 : Inv X pins σ1 H1 { t with heap := g3 } := J.landed nb fl3.1 (up.trans up3) os ag
    obtain ⟨o3, v3, e3, z3, d3⟩ := fl3.there
    have notfr : a ∉ frs (X.env :: X.outer) := fun hm => by
      obtain ⟨_, o', e', hnf⟩ := fl3.2.2.1.mem hm
      rw [e3] at e'
      cases e'
      exact hnf _ d3
    have aL : a ≠ X.env.locals := fun z => notfr (List.mem_filterMap.mpr ⟨X.env, List.mem_cons_self, by rw [hfrm, z]⟩)
    have aF : a ∉ X.fs := fun hm => by
      obtain ⟨e, he, q⟩ := List.mem_filterMap.mp hm
      exact notfr (List.mem_filterMap.mpr ⟨e, List.mem_cons_of_mem _ he, q⟩)
    have inB : ∀ b o, sI.heap.get? b = some o → b ∉ frs X.stack → b ≠ a := fun b o e nf z => by
      have q := nb b o e nf
      rw [z, Ba] at q
      cases q
    have S3 := J3.suite e3 d3 na aL aF
    refine wpAny_handleBy_cons (codeAny_handlers_test ?_) (by intro q; cases q)
    have typ : PySem.W.Looks (model X.prog X.w) g3 (typeOf (.ref a)) (.ref Ca) := fun A Q E s k q => wpAny_typeOf_ref (k _ _ e3) (by rw [z3.1]; exact q)
    have isIt := PySem.W.exm_one (M := model X.prog X.w) (J3.kIn) typ hb1
    have asks : ∀ {Q : Value → Shared → Prop} {E : Value → Shared → Prop}, Q c { t with heap := g3 } → wpAny (model X.prog X.w) (X.A.mark (some (.ref a))) (eval (.Name x np) X.env) Q E { t with heap := g3 } := by
      intro Q E q
      obtain ⟨hg, hdbg, hm | ⟨hm, hv, hnn⟩⟩ := hc
      · exact ld_glob (X := X.suite a ((a, o3) :: (X.pn ++ pins))) S3 hg hm q hdbg
      · exact ld_blt (X := X.suite a ((a, o3) :: (X.pn ++ pins))) S3 hg hm hv q hnn hdbg
    refine asks (isIt.here ?_)
    refine codeAny_handlers_suite_as ?_
    refine HandSPX.lands_againZ fl3 fun g4 fl4 up4 => ?_
    have J4 : Inv X pins σ1 H1 { t with heap := g4 } := J.landed nb fl4.1 ((up.trans up3).trans up4) os ag
    obtain ⟨o4, v4, e4, z4, d4⟩ := fl4.there
    have S4 := J4.suite e4 d4 na aL aF
    refine store_ok (X := X.suite a ((a, o4) :: (X.pn ++ pins))) (v := .ref a) S4 nd hi (.inl hln) rfl (fun s5 S5 => ?_) (.inr hln)
    have hlen : i < σ1.length := by
      rw [J.len]
      exact (List.getElem?_eq_some_iff.mp hi).1
    have su : PSs (X.suite a ((a, o4) :: (X.pn ++ pins))) [.Assign [.Name y pn1] (.Name n pn2) pa] (tAsg (tVar i) (gName j)) :=
      pss_one (ps_set (X := X.suite a ((a, o4) :: (X.pn ++ pins))) nd hj (.inl hyl) (pe_var hi (.inl hln) hd1 hd2) hsw (.inr hyl))
    refine wpAny_mono (su.run [] s5 _ H1 { nx := fun σ6 H6 => σ6 = (σ1.set i (some (.ref a))).set j (some (.ref a)) ∧ H6 = H1, rt := fun _ _ => False } S5 ⟨.ref a, by rw [List.getElem?_set_self hlen], rfl, rfl⟩) (fun f s6 hsp => ?_) (fun _ _ z => False.elim z)
    cases f with
    | brk => obtain ⟨_, _, _, z⟩ := hsp; exact z.elim
    | cont => obtain ⟨_, _, _, z⟩ := hsp; exact z.elim
    | ret u => obtain ⟨_, _, _, _, _, z⟩ := hsp; exact z.elim
    | next =>
      obtain ⟨σ6, H6, S6, rfl, rfl⟩ := hsp
      have pin6 := S6.pin (a, o4) (List.mem_append_left _ List.mem_cons_self)
      have J6 : Inv X ((a, o4) :: pins) ((σ1.set i (some (.ref a))).set j (some (.ref a))) H6 s6 := (S6.unsuite xok).pins_of fun p hp => by
        rcases List.mem_cons.mp hp with q | q
        · rw [q]; exact pin6
        · exact (S6.unsuite xok).pin p (List.mem_append_right _ q)
      refine gone_ok J6 nd hi hln fun s7 J7 => ?_
      have at7 : s7.heap.get? a = some o4 := (J7.pin (a, o4) (List.mem_append_right _ List.mem_cons_self)).1
      have J8 : Inv X pins (((σ1.set i (some (.ref a))).set j (some (.ref a))).set i none) H6 s7 := J7.pins_of fun p hp => J7.pin p (List.mem_append_right _ (List.mem_cons_of_mem _ hp))
      refine ⟨_, _, inv_track (o := ExW Ca a) J8 na ?_ aL (fun y' c' e z => ?_) (fun p hp => ?_) ⟨⟨o4, v4, at7, z4.1, z4.2, d4⟩, ⟨o4, at7⟩, fun _ _ ⟨o, v, q, r⟩ k => ⟨o, v, k o q, r⟩⟩, nxt a na⟩
      · cases q : X.s_0.heap.get? a with
        | none => rfl
        | some o =>
          obtain ⟨o', q'⟩ := J.base.there a o q (by rw [hex]; exact fun z => nomatch z)
          exact absurd rfl (inB a o' q' (by rw [hstk]; exact notfr))
      · obtain ⟨v, o, q, qd⟩ := J8.cell y' c' e
        rw [z, at7] at q
        cases q
        rw [d4] at qd
        cases qd
      · obtain ⟨q1, q2, q3, q4, _⟩ := J.pin p hp
        refine inB p.1 p.2 q1 fun hm => ?_
        rw [hstk] at hm
        unfold frs at hm
        rw [List.filterMap_cons, hfrm] at hm
        rcases List.mem_cons.mp hm with z | z
        · exact q3 z
        · exact q4 z
  refine wpAny_mono run (fun f s1 hsp => ?_) (fun e s1 he => he)
  cases f with
  | next =>
    obtain ⟨σ2, H2, J2, q⟩ := hsp
    exact wpAny_execs_nil ⟨σ2, H2, J2.ofTry xok, q⟩
  | brk =>
    obtain ⟨σ2, H2, J2, q⟩ := hsp
    exact ⟨σ2, H2, J2.ofTry xok, q⟩
  | cont =>
    obtain ⟨σ2, H2, J2, q⟩ := hsp
    exact ⟨σ2, H2, J2.ofTry xok, q⟩
  | ret u =>
    obtain ⟨v, σ2, H2, J2, r, q⟩ := hsp
    exact ⟨v, σ2, H2, J2.ofTry xok, r, q⟩
end

/-! ### .. by data -/
/-- try: body / except x as n (slot i): y (slot j) = n -/
def sTry (i j : Nat) (f : SF) : SF := fun δ st => match f δ st with
  | .rs c δ' st' => .nx ((δ'.set j (.ex c)).set i .un) st'
  | r => r
section
variable {R : Rx} {X : Cx} {W : WX} {k : Nat}
theorem dss_can {X : Cx} {W : WX} {s : List Stmt} {f : SF} (h : DSs R X W s f) : PSs X s (fun D σ H => ∃ w δ st, Sto R w H st ∧ SlR R w σ δ ∧ PostS R W w D (f δ st)) := by
  obtain ⟨t, p, m⟩ := h
  exact ⟨fun pins s σ H D I ⟨w, δ, st, S, L, P⟩ => p.run pins s σ H D I (m w H σ δ st D S L P)⟩
theorem set_comm3 {α : Type} {l : List α} {i j : Nat} {x y z : α} (h : i ≠ j) : ((l.set i x).set j y).set i z = (l.set j y).set i z := by
  rw [List.set_comm _ _ h, List.set_set]
theorem sto_exc {w : Wd} {H : Hp} {st : List Cell} {a : Addr} {c : Nat} (S : Sto R w H st) (hn : H a = none) : Sto R ⟨upd w.F a (ExW (R.ca c) a), w.as⟩ (upd H a (ExW (R.ca c) a)) st ∧ w.le ⟨upd w.F a (ExW (R.ca c) a), w.as⟩ := S.laid hn
theorem ds_try (C : Ct R X W k) {x n y : Str} {c : Value} {i j : Nat} {body : List Stmt} {np pos pos' pn1 pn2 pa : Pos} {f : SF} (hstk : X.stack = X.env :: X.outer) (hfrm : X.env.frame = some X.env.locals) (hex : X.ex = []) (hi : X.N[i]? = some n) (hln : X.env.kindOf n = some .local) (hj : X.N[j]? = some y) (hyl : X.env.kindOf y = some .local) (hij : i ≠ j)
    (hc : Names X x c) (hcl : ∀ e, PySem.W.exmOne R.K (.ref (R.ca e)) c = some true) (hb : ∀ (W : WX) (pn : List (Addr × Obj)) (xe : Value → Shared → Prop), Ct R (X.tr pn xe) W k → DSs R (X.tr pn xe) W body f)
    (hd1 : (n == ("__debug__" : Str)) = false := by decide) (hd2 : (n == ("__classdict__" : Str)) = false := by decide) (hsw : swapsWith (.Name n pn2) (some (.Name y pn1)) pa.line X.env = pure false := by rfl) :
    DS R X W (.Try body [.ExceptHandler (some (.Name x np)) (some n) [.Assign [.Name y pn1] (.Name n pn2) pa] pos'] [] [] pos) (sTry i j f) := by
  refine ⟨_, ps_catch (tb := fun W D σ H => ∃ w δ st, Sto R w H st ∧ SlR R w σ δ ∧ PostS R W w D (f δ st)) hstk hfrm hex C.nd hi hln hj hyl hc hd1 hd2 hsw (fun W pn xe tk po => dss_can (hb W pn xe ⟨C.hK, C.calm, C.room, tk, po, C.nd⟩)), fun w H σ δ st D S L P => ?_⟩
  refine ⟨w, δ, st, S, L, ?_⟩
  unfold sTry at P
  cases e : f δ st with
  | nx _ _ => rw [e] at P; exact P
  | rt _ _ => rw [e] at P; exact P
  | br _ _ => rw [e] at P; exact P
  | ct _ _ => rw [e] at P; exact P
  | bad => rw [e] at P; exact P.elim
  | rs cc δ' st' =>
    rw [e] at P
    intro σ' H' w' l' S' L'
    refine ⟨R.ca cc, rfl, rfl, by rw [C.hK]; exact hcl cc, fun a ha => ?_⟩
    obtain ⟨S2, l2⟩ := sto_exc (c := cc) S' ha
    refine P _ _ _ (l'.trans l2) S2 ?_
    rw [set_comm3 hij]
    exact ((L'.mono l2).set (d := .ex cc) ⟨a, rfl, upd_same⟩ j).setUn i
end
end WB

set_option maxRecDepth 100000
set_option maxHeartbeats 4000000
namespace WB
open PySem PySem.Spec PyProof.Rows L2
section
variable {R : Rx} {X : Cx} {W : WX} {k : Nat}
/-! ### xs.insert(i, y), xs.extend(ys), xs.pop(i) -/
def rInsert : V → List V → Hp → VK → Prop := fun x vs H Q => ∃ (l : Addr) (xs : List V) (i : Int) (y : V), x = .ref l ∧ vs = [.int i, y] ∧ H l = some (.lst xs) ∧ xs.length < sizeLine ∧ 0 ≤ i ∧ i < 2 ^ 63 ∧
    Q .non (upd H l (.lst (xs.take i.toNat ++ [y] ++ xs.drop i.toNat)))
def mInsert (v : DV) (vs : List DV) (st : List Cell) : ER DV := match v, vs with
  | .ptr j, [.dat (.int i), y] => (frzV y st).bx fun d st1 => (match st1[j]? with
    | some (.mu xs) => if (decide (xs.length < 1000000) && (decide (0 ≤ i) && decide (i < 1000000))) = true then .ok (.dat .none) (st1.set j (.mu (xs.take i.toNat ++ [d] ++ xs.drop i.toNat))) else .bad
    | _ => .bad)
  | _, _ => .bad
theorem mm_insert : MtdMt R rInsert mInsert := by
  intro W σ w H st x ys v vs Q S rv r P
  unfold mInsert at P
  split at P
  · rename_i j i y
    cases r with
    | cons h0 h =>
      cases h with
      | cons h1 h2 =>
        cases h2
        cases h0
        cases e : frzV y st with
        | bad => rw [e] at P; exact P.elim
        | rs c s => rw [e] at P; exact P.elim
        | ok d st1 =>
          rw [e] at P
          obtain ⟨w1, l1, S1, hd⟩ := frzV_ok S h1 e
          have P1 : Post R W w σ (DvR R) Q (match st1[j]? with
            | some (.mu xs) => if (decide (xs.length < 1000000) && (decide (0 ≤ i) && decide (i < 1000000))) = true then .ok (.dat .none) (st1.set j (.mu (xs.take i.toNat ++ [d] ++ xs.drop i.toNat))) else .bad
            | _ => .bad) := P
          obtain ⟨a, ea, rfl⟩ := rv.mono (v := .ptr j) l1
          split at P1
          · rename_i xs e2
            split at P1
            · rename_i hz
              simp only [Bool.and_eq_true, decide_eq_true_eq] at hz
              obtain ⟨z1, z2, z3⟩ := hz
              obtain ⟨a', ws, ea', hH, ha, _⟩ := S1.lst e2
              rw [ea] at ea'; cases ea'
              refine ⟨a, ws, _, _, rfl, rfl, hH, by rw [ha.length, sizeLine_eq]; omega, z2, by omega, ?_⟩
              exact (Post.mono l1 P1).here (S1.put e2 ea (DtAll.append (DtAll.append (DtAll.take _ ha) (.cons hd .nil)) (DtAll.drop _ ha))) .non
            · exact P1.elim
          · exact P1.elim
  · exact P.elim
theorem de_insert (C : Ct R X W k) {o e1 e2 : Expr} {p pos : Pos} {fo f1 f2 : EF} (ho : DE R X W o fo) (h1 : DE R X W e1 f1) (h2 : DE R X W e2 f2) (hs1 : starEach [e1, e2] X.env = (false, eval e1 X.env) :: starEach [e2] X.env := by rfl) (hs2 : starEach [e2] X.env = (false, eval e2 X.env) :: starEach [] X.env := by rfl)
    (hpl : ∀ to t, PE X o to → PA X [e1, e2] t → PE X (.Call (.Attribute o "insert" p) [e1, e2] [] pos) (tBM X.K "list" rInsert to t) := by exact fun to t ho ha => pe_bm PySem.F.plainAttrs_list PySem.F.slot_list_insert PySem.F.type_list_insert mt_insert ho ha) :
    DE R X W (.Call (.Attribute o "insert" p) [e1, e2] [] pos) (dMtd mInsert fo (dCons f1 (dCons f2 dNil))) := de_mtd C PySem.F.slot_list_insert PySem.F.type_list_insert mt_insert mm_insert ho (da_cons h1 (da_cons h2 da_nil hs2) hs1) hpl
def mExtend (v : DV) (vs : List DV) (st : List Cell) : ER DV := match v, vs with
  | .ptr j, [y] => (match st[j]?, rdM st y with
    | some (.mu xs), some ys => if xs.length + ys.length ≤ 1000000 then .ok (.dat .none) (st.set j (.mu (xs ++ ys))) else .bad
    | _, _ => .bad)
  | _, _ => .bad
theorem mm_extend : MtdMt R rExtend mExtend := by
  intro W σ w H st x ys v vs Q S rv r P
  unfold mExtend at P
  split at P
  · rename_i j y
    cases r with
    | cons h1 h2 =>
      cases h2
      split at P
      · rename_i xs zs e1 e2
        split at P
        · rename_i hz
          obtain ⟨a, ea, rfl⟩ := rv
          obtain ⟨a', ws, ea', hH, ha, _⟩ := S.lst e1
          rw [ea] at ea'; cases ea'
          obtain ⟨b, us, rfl, hb, hbs⟩ := rdM_ok S h1 e2
          refine ⟨a, b, ws, us, rfl, rfl, hH, hb, by rw [ha.length, hbs.length]; exact line6 hz, ?_⟩
          exact P.here (S.put e1 ea (DtAll.append ha hbs)) .non
        · exact P.elim
      · exact P.elim
  · exact P.elim
theorem de_extend (C : Ct R X W k) {o e : Expr} {p pos : Pos} {fo fe : EF} (ho : DE R X W o fo) (he : DE R X W e fe) (hs : starEach [e] X.env = (false, eval e X.env) :: starEach [] X.env := by rfl) (hpl : ∀ to t, PE X o to → PA X [e] t → PE X (.Call (.Attribute o "extend" p) [e] [] pos) (tBM X.K "list" rExtend to t) := by exact fun to t ho ha => pe_bm PySem.F.plainAttrs_list PySem.F.slot_list_extend PySem.F.type_list_extend mt_extend ho ha) :
    DE R X W (.Call (.Attribute o "extend" p) [e] [] pos) (dMtd mExtend fo (dCons fe dNil)) := de_mtd C PySem.F.slot_list_extend PySem.F.type_list_extend mt_extend mm_extend ho (da_cons he da_nil hs) hpl
def mPopAt (v : DV) (vs : List DV) (st : List Cell) : ER DV := match v, vs with
  | .ptr j, [.dat (.int i)] => (match st[j]? with
    | some (.mu xs) => if (decide (0 ≤ i) && decide (i < xs.length)) = true then (match xs[i.toNat]? with
        | some d => if xs.length ≤ 1000000 then .ok (.dat d) (st.set j (.mu (xs.eraseIdx i.toNat))) else .bad
        | none => .bad) else .bad
    | _ => .bad)
  | _, _ => .bad
theorem mm_popAt : MtdMt R rPopAt mPopAt := by
  intro W σ w H st x ys v vs Q S rv r P
  unfold mPopAt at P
  split at P
  · rename_i j i
    cases r with
    | cons h1 h2 =>
      cases h2
      cases h1
      split at P
      · rename_i xs e1
        split at P
        · rename_i hz
          simp only [Bool.and_eq_true, decide_eq_true_eq] at hz
          split at P
          · rename_i d e2
            split at P
            · rename_i hl
              obtain ⟨a, ea, rfl⟩ := rv
              obtain ⟨a', ws, ea', hH, ha, _⟩ := S.lst e1
              rw [ea] at ea'; cases ea'
              obtain ⟨u, eu, hu⟩ := ha.get e2
              refine ⟨a, ws, i, i.toNat, u, rfl, rfl, hH, by omega, by omega, ?_, eu, ?_⟩
              · rw [ha.length]
                exact PySem.StrLaws.seqIndex_nonneg hz.1 (by exact hz.2)
              · exact P.here (S.put e1 ea (DtAll.eraseIdx _ ha)) hu
            · exact P.elim
          · exact P.elim
        · exact P.elim
      · exact P.elim
  · exact P.elim
theorem de_popAt (C : Ct R X W k) {o e : Expr} {p pos : Pos} {fo fe : EF} (ho : DE R X W o fo) (he : DE R X W e fe) (hs : starEach [e] X.env = (false, eval e X.env) :: starEach [] X.env := by rfl) (hpl : ∀ to t, PE X o to → PA X [e] t → PE X (.Call (.Attribute o "pop" p) [e] [] pos) (tBM X.K "list" rPopAt to t) := by exact fun to t ho ha => pe_bm PySem.F.plainAttrs_list PySem.F.slot_list_pop PySem.F.type_list_pop mt_popAt ho ha) :
    DE R X W (.Call (.Attribute o "pop" p) [e] [] pos) (dMtd mPopAt fo (dCons fe dNil)) := de_mtd C PySem.F.slot_list_pop PySem.F.type_list_pop mt_popAt mm_popAt ho (da_cons he da_nil hs) hpl
/-! ### xs.index(y), xs.count(y), of flat things -/
/-- the first place of d -/
def ixOf (d : PyData) : List PyData → Option Nat
  | [] => none
  | e :: r => if eqV (vOf e) (vOf d) = true then some 0 else (ixOf d r).map (· + 1)
theorem ixOf_spec {d : PyData} : ∀ {ds : List PyData} {j : Nat}, ixOf d ds = some j → ∃ e, ds[j]? = some e ∧ eqV (vOf e) (vOf d) = true ∧ ∀ (m : Nat) (z : PyData), m < j → ds[m]? = some z → eqV (vOf z) (vOf d) = false
  | [], j, h => by cases h
  | e :: r, j, h => by
    unfold ixOf at h
    split at h
    · rename_i he
      cases h
      exact ⟨e, rfl, he, fun m z hm => by omega⟩
    · rename_i he
      cases q : ixOf d r with
      | none => rw [q] at h; cases h
      | some i =>
        rw [q] at h
        cases h
        obtain ⟨e', h1, h2, h3⟩ := ixOf_spec q
        refine ⟨e', by simpa using h1, h2, fun m z hm hz => ?_⟩
        cases m with
        | zero =>
          have : e = z := by simpa using hz
          rw [← this]
          exact Bool.eq_false_iff.mpr he
        | succ m =>
          have hm' : m + 1 < i + 1 := hm
          exact h3 m z (by omega) (by simpa using hz)
def mIndex (v : DV) (vs : List DV) (st : List Cell) : ER DV := match vs with
  | [.dat d] => (match rdL st v with
    | some xs => if (flatD d && xs.all flatD) = true then (match ixOf d xs with
        | some j => .ok (.dat (.int (j : Nat))) st
        | none => .bad) else .bad
    | none => .bad)
  | _ => .bad
theorem mm_index : MtdMt R (rIndex R.K) mIndex := by
  intro W σ w H st x ys v vs Q S rv r P
  unfold mIndex at P
  split at P
  · rename_i d
    cases r with
    | cons h1 h2 =>
      cases h2
      split at P
      · rename_i xs e1
        split at P
        · rename_i hf
          rw [Bool.and_eq_true] at hf
          split at P
          · rename_i j e2
            obtain ⟨a, ws, rfl, h3, h4⟩ := rdL_ok S rv e1
            obtain ⟨q1, q2⟩ := vOf_of h1 hf.1
            obtain ⟨q3, q4⟩ := vOf_all h4 hf.2
            obtain ⟨e, s1, s2, s3⟩ := ixOf_spec e2
            refine ⟨a, ws, _, j, vOf e, rfl, rfl, h3, q2, q4, ?_, by rw [q1]; exact s2, fun m z hm hz => ?_, P.here S (.int _)⟩
            · rw [q3, List.getElem?_map, s1]; rfl
            · rw [q3, List.getElem?_map] at hz
              cases e5 : xs[m]? with
              | none => rw [e5] at hz; cases hz
              | some z' =>
                rw [e5] at hz
                cases hz
                rw [q1]
                exact s3 m z' hm e5
          · exact P.elim
        · exact P.elim
      · exact P.elim
  · exact P.elim
theorem mt_indexR (C : Ct R X W k) : MtR X "list.index" (rIndex R.K) := by
  have h := mt_index (X := X)
  rw [C.hK] at h
  exact h
theorem de_index (C : Ct R X W k) {o e : Expr} {p pos : Pos} {fo fe : EF} (ho : DE R X W o fo) (he : DE R X W e fe) (hs : starEach [e] X.env = (false, eval e X.env) :: starEach [] X.env := by rfl) (hpl : ∀ to t, MtR X "list.index" (rIndex R.K) → PE X o to → PA X [e] t → PE X (.Call (.Attribute o "index" p) [e] [] pos) (tBM X.K "list" (rIndex R.K) to t) := by exact fun to t hm ho ha => pe_bm PySem.F.plainAttrs_list PySem.F.slot_list_index PySem.F.type_list_index hm ho ha) :
    DE R X W (.Call (.Attribute o "index" p) [e] [] pos) (dMtd mIndex fo (dCons fe dNil)) := de_mtd C PySem.F.slot_list_index PySem.F.type_list_index (mt_indexR C) mm_index ho (da_cons he da_nil hs) (fun to t => hpl to t (mt_indexR C))
def rCountF (K : PySem.W.Frag) : V → List V → Hp → VK → Prop := fun x xs H Q => ∃ (p : Addr) (ys : List V) (y : V), x = .ref p ∧ xs = [y] ∧ SqL K H p ys ∧ flatV y = true ∧ ys.all flatV = true ∧ Q (.int (ys.countP (fun z => eqV z y) : Nat)) H
theorem countP_eqU {x : V} : ∀ {xs : List V} {us : List Value}, Vals xs us → xs.all flatV = true → us.countP (eqU x) = xs.countP fun y => eqV y x
  | _, _, .nil, _ => rfl
  | y :: xs, u :: us, .cons r t, f => by
    rw [List.all_cons, Bool.and_eq_true] at f
    rw [List.countP_cons, List.countP_cons, countP_eqU t f.2, eqU_of r f.1]
theorem mt_countF : MtR X "list.count" (rCountF X.K) := by
  intro pins s σ H x xs v us Q I rx rxs h
  obtain ⟨p, ys, y, rfl, rfl, hsq, fy, fys, q⟩ := h
  cases rx
  obtain ⟨u, rfl, ru⟩ := rxs.one
  obtain ⟨its, rv, ⟨⟨cls, dd, data, sl⟩, n, ho, hcl, hdn, hda⟩, hlen⟩ := I.list hsq
  simp only at hcl hda
  subst hcl hda
  refine call_meets PySem.F.slot_list_count ⟨_, ho, rfl⟩ PySem.F.entry_list_count (PySem.F.args_list_count_2 _ _)
    (SeqAt.list_countAt p its.toArray n dd sl u (eqU y)) ⟨ho, fun z hz => mem_eqAt ru fy rv fys z (by simpa using hz), ?_⟩
  have ec : its.toArray.toList.countP (eqU y) = ys.countP (fun z => eqV z y) := countP_eqU rv fys
  refine ⟨.int (ys.countP (fun z => eqV z y) : Nat), H, I.tok _, ⟨s.toks, ?_⟩, q⟩
  show Value.int ((its.toArray.toList.countP (eqU y) : Nat) : Int) s.toks = _
  rw [ec]
def mCount (v : DV) (vs : List DV) (st : List Cell) : ER DV := match vs with
  | [.dat d] => (match rdL st v with
    | some xs => if (flatD d && xs.all flatD) = true then .ok (.dat (.int ((xs.map vOf).countP (fun z => eqV z (vOf d)) : Nat))) st else .bad
    | none => .bad)
  | _ => .bad
theorem mm_count : MtdMt R (rCountF R.K) mCount := by
  intro W σ w H st x ys v vs Q S rv r P
  unfold mCount at P
  split at P
  · rename_i d
    cases r with
    | cons h1 h2 =>
      cases h2
      split at P
      · rename_i xs e1
        split at P
        · rename_i hf
          rw [Bool.and_eq_true] at hf
          obtain ⟨a, ws, rfl, h3, h4⟩ := rdL_ok S rv e1
          obtain ⟨q1, q2⟩ := vOf_of h1 hf.1
          obtain ⟨q3, q4⟩ := vOf_all h4 hf.2
          refine ⟨a, ws, _, rfl, rfl, h3, q2, q4, ?_⟩
          rw [q3, q1]
          exact P.here S (.int _)
        · exact P.elim
      · exact P.elim
  · exact P.elim
theorem mt_countR (C : Ct R X W k) : MtR X "list.count" (rCountF R.K) := by
  have h := mt_countF (X := X)
  rw [C.hK] at h
  exact h
theorem de_count (C : Ct R X W k) {o e : Expr} {p pos : Pos} {fo fe : EF} (ho : DE R X W o fo) (he : DE R X W e fe) (hs : starEach [e] X.env = (false, eval e X.env) :: starEach [] X.env := by rfl) (hpl : ∀ to t, MtR X "list.count" (rCountF R.K) → PE X o to → PA X [e] t → PE X (.Call (.Attribute o "count" p) [e] [] pos) (tBM X.K "list" (rCountF R.K) to t) := by exact fun to t hm ho ha => pe_bm PySem.F.plainAttrs_list PySem.F.slot_list_count PySem.F.type_list_count hm ho ha) :
    DE R X W (.Call (.Attribute o "count" p) [e] [] pos) (dMtd mCount fo (dCons fe dNil)) := de_mtd C PySem.F.slot_list_count PySem.F.type_list_count (mt_countR C) mm_count ho (da_cons he da_nil hs) (fun to t => hpl to t (mt_countR C))
/-! ### isinstance of a caught error -/
def rIsX (K : PySem.W.Frag) : List V → Hp → VK → Prop := fun xs H Q => ∃ (a D : Addr) (c : V) (cv : Value) (b : Bool), xs = [.ref a, c] ∧ H a = some (ExW D a) ∧ ExcC K D ∧ (∀ u, RelV c u → u = cv) ∧ PySem.W.kitOne K (.ref D) cv = some b ∧ Q (.bl b) H
theorem call_isX : CallR X (.builtin "isinstance") (rIsX X.K) := by
  intro pins s σ H xs us Q I r h
  obtain ⟨a, D, c, cv, b, rfl, hH, C, hcv, e, q⟩ := h
  obtain ⟨u1, u2, rfl, r1, r2⟩ := r.two
  cases r1
  have ec := hcv _ r2
  subst ec
  obtain ⟨⟨oe, vs, hget, h1, h2, hv⟩, _, _⟩ := I.hok a _ hH
  have J : PySem.W.InstAt s.heap a oe D none := by
    obtain ⟨oc, od, oda, osl⟩ := oe
    dsimp only at h1 h2 hv
    subst h1 h2 hv
    exact ⟨hget, rfl, rfl, trivial⟩
  exact PySem.W.kia_one (PySem.W.handS_kitx_exc C.hg C.hk C.hs C.hd C.ha C.hn C.ht C.hm) I.kIn J e (fun z => nomatch z) fun tk => ⟨.bl b, H, I.kept (t' := tk) fun _ _ z => z, rfl, q⟩
def dIsI (tb : Nat → Bool) (f : EF) : EF := fun δ st => (f δ st).bd fun v st1 => match v with
  | .ex c => .ok (.dat (.bool (tb c))) st1
  | _ => .bad
/-- isinstance(e, x), x a class by its name -/
theorem de_isi (C : Ct R X W k) {e : Expr} {x : Str} {p p2 pos : Pos} {f : EF} {cv : V} {u : Value} {tb : Nat → Bool} (hm : X.mg "isinstance" = none) (he : DE R X W e f) (hx : PE X (.Name x p2) (tC cv)) (hcv : ∀ u', RelV cv u' → u' = u) (hE : ∀ c, ExcC R.K (R.ca c)) (hk : ∀ c, PySem.W.kitOne R.K (.ref (R.ca c)) u = some (tb c)) (hg : Gl X "isinstance" := by rfl)
    (hs1 : starEach [e, .Name x p2] X.env = (false, eval e X.env) :: starEach [.Name x p2] X.env := by rfl) (hs2 : starEach [.Name x p2] X.env = (false, eval (.Name x p2) X.env) :: starEach [] X.env := by rfl) (hpl : (backTo pos (starEach [.Name x p2] X.env)).any (·.1) = false := by rfl) :
    DE R X W (.Call (.Name "isinstance" p) [e, .Name x p2] [] pos) (dIsI tb f) := by
  obtain ⟨t, pe, m⟩ := he
  refine ⟨_, pe_callB call_isX hg hm (by decide +kernel) (pa_cons pe (pa_cons hx pa_nil hs2) hs1) (by decide) (by decide) hs1 hpl, fun w H σ δ st Q S L P => ?_⟩
  refine m.seq S L P fun v st1 y H1 w1 l1 S1 L1 r1 P1 => ?_
  split at P1
  · rename_i c
    obtain ⟨a, rfl, hF⟩ := r1
    exact ⟨a, R.ca c, cv, u, tb c, rfl, S1.sub _ _ hF, by rw [C.hK]; exact hE c, hcv, by rw [C.hK]; exact hk c, P1.here S1 (.bl _)⟩
  · exact P1.elim
end
end WB

set_option maxRecDepth 100000
set_option maxHeartbeats 4000000
namespace WB
open PySem PySem.Spec PyProof.Rows L2
section
variable {R : Rx} {X : Cx} {W : WX} {k : Nat}
abbrev Xb (X : Cx) (scope : Scope) (s : Shared) (H : Hp) (Cc : Addr) (cl : List (Str × Addr)) (fp : List Addr) : Cx := X.blk s H scope (compEnvC scope cl Cc X.env) fp
def LocS (scope : Scope) (x : Str) : Prop := scope.names.lookup x = some .local ∨ scope.names.lookup x = some .cell
theorem pgB {scope : Scope} {x : Str} {tp : Pos} {i : Nat} (nd : X.N.Nodup) (hN : X.N[i]? = some x) (hx : LocS scope x) (s : Shared) (H : Hp) (Cc : Addr) (cl : List (Str × Addr)) (fp : List Addr) : PG (Xb X scope s H Cc cl fp) (.Name x tp) (gName i) := by
  refine pg_name (X := Xb X scope s H Cc cl fp) nd hN ?_ ?_
  · rcases hx with h | h
    · exact .inl (lookup_relS_keep (sc := X.env.scope) (by decide) h)
    · exact .inr (lookup_relS_keep (sc := X.env.scope) (by decide) h)
  · rcases hx with h | h
    · exact .inr (lookup_relS_keep (sc := X.env.scope) (by decide) h)
    · left
      show (scope.names.lookup x == some .cell) = true
      rw [h]; rfl
/-- [e for x in ..] -/
theorem de_lcN (C : Ct R X W k) (i : Nat) (own : List (Str × Nat)) {vs : List Nat} {x : Str} {tp pos : Pos} {elt iter : Expr} {scope : Scope} {fi : IF} {fe : EF} (hi : DI R X W G0 (.Name x tp) iter fi) (ok : BlkOk X.N X.env.scope scope own) (hx : LocS scope x)
    (he : ∀ (s : Shared) (H : Hp) (Cc : Addr) (cl : List (Str × Addr)) (fp : List Addr), Ct R (Xb X scope s H Cc cl fp) W0 k → DE R (Xb X scope s H Cc cl fp) W0 elt fe) (hvs : own.map (·.2) = vs := by rfl) (hv : i ∈ vs := by decide) (hN : X.N[i]? = some x := by rfl) (hs : ∀ y, foldedSetIterable iter X.env y = pure y := by intro _; rfl) :
    DE R X W (.ListComp elt [⟨.Name x tp, iter, [], 0⟩] scope pos) (dLc vs (tgN i) fi tYesF fe) := by
  subst hvs
  rw [← dLcG_any]
  exact de_lc C gok0 hi ok (pgB C.nd hN hx) (tgW_name i hv) (fun _ _ _ _ _ => pts_nil) mt_yes (fun s H Cc cl fp => he s H Cc cl fp (C.blk s H scope _ fp)) hs
/-- [e for x in .. if t] -/
theorem de_lcI (C : Ct R X W k) (i : Nat) (own : List (Str × Nat)) {vs : List Nat} {x : Str} {tp pos : Pos} {elt iter c : Expr} {scope : Scope} {fi : IF} {ft : TF} {fe : EF} (hi : DI R X W G0 (.Name x tp) iter fi) (ok : BlkOk X.N X.env.scope scope own) (hx : LocS scope x)
    (ht : ∀ (s : Shared) (H : Hp) (Cc : Addr) (cl : List (Str × Addr)) (fp : List Addr), Ct R (Xb X scope s H Cc cl fp) W0 k → DT R (Xb X scope s H Cc cl fp) W0 c ft) (he : ∀ (s : Shared) (H : Hp) (Cc : Addr) (cl : List (Str × Addr)) (fp : List Addr), Ct R (Xb X scope s H Cc cl fp) W0 k → DE R (Xb X scope s H Cc cl fp) W0 elt fe)
    (hvs : own.map (·.2) = vs := by rfl) (hv : i ∈ vs := by decide) (hN : X.N[i]? = some x := by rfl) (hs : ∀ y, foldedSetIterable iter X.env y = pure y := by intro _; rfl) :
    DE R X W (.ListComp elt [⟨.Name x tp, iter, [c], 0⟩] scope pos) (dLc vs (tgN i) fi ft fe) := by
  subst hvs
  rw [← dLcG_any]
  exact de_lc C gok0 hi ok (pgB C.nd hN hx) (tgW_name i hv) (fun s H Cc cl fp => pts_one (ht s H Cc cl fp (C.blk s H scope _ fp)).can) mt_of (fun s H Cc cl fp => he s H Cc cl fp (C.blk s H scope _ fp)) hs
/-- y = [e for x in ..] -/
theorem ds_lcN (C : Ct R X W k) (j i : Nat) (own : List (Str × Nat)) {vs : List Nat} {x y : Str} {tp py pos spos : Pos} {elt iter : Expr} {scope : Scope} {fi : IF} {fe : EF} (hi : DI R X W G0 (.Name x tp) iter fi) (ok : BlkOk X.N X.env.scope scope own) (hx : LocS scope x)
    (he : ∀ (s : Shared) (H : Hp) (Cc : Addr) (cl : List (Str × Addr)) (fp : List Addr), Ct R (Xb X scope s H Cc cl fp) W0 k → DE R (Xb X scope s H Cc cl fp) W0 elt fe)
    (hsw : swapsWith (.ListComp elt [⟨.Name x tp, iter, [], 0⟩] scope pos) (some (.Name y py)) spos.line X.env = pure true) (hy : X.N[j]? = some y := by rfl) (hyl : X.env.scope.names.lookup y = some .local := by rfl)
    (hvs : own.map (·.2) = vs := by rfl) (hv : i ∈ vs := by decide) (hN : X.N[i]? = some x := by rfl) (hs : ∀ y, foldedSetIterable iter X.env y = pure y := by intro _; rfl) :
    DS R X W (.Assign [.Name y py] (.ListComp elt [⟨.Name x tp, iter, [], 0⟩] scope pos) spos) (sSet j (dLc vs (tgN i) fi tYesF fe)) := by
  subst hvs
  rw [← dLcG_any]
  exact ds_setLc C gok0 hy hyl hsw hi ok (pgB C.nd hN hx) (tgW_name i hv) (fun _ _ _ _ _ => pts_nil) mt_yes (fun s H Cc cl fp => he s H Cc cl fp (C.blk s H scope _ fp)) hs
theorem ds_lcI (C : Ct R X W k) (j i : Nat) (own : List (Str × Nat)) {vs : List Nat} {x y : Str} {tp py pos spos : Pos} {elt iter c : Expr} {scope : Scope} {fi : IF} {ft : TF} {fe : EF} (hi : DI R X W G0 (.Name x tp) iter fi) (ok : BlkOk X.N X.env.scope scope own) (hx : LocS scope x)
    (ht : ∀ (s : Shared) (H : Hp) (Cc : Addr) (cl : List (Str × Addr)) (fp : List Addr), Ct R (Xb X scope s H Cc cl fp) W0 k → DT R (Xb X scope s H Cc cl fp) W0 c ft) (he : ∀ (s : Shared) (H : Hp) (Cc : Addr) (cl : List (Str × Addr)) (fp : List Addr), Ct R (Xb X scope s H Cc cl fp) W0 k → DE R (Xb X scope s H Cc cl fp) W0 elt fe)
    (hsw : swapsWith (.ListComp elt [⟨.Name x tp, iter, [c], 0⟩] scope pos) (some (.Name y py)) spos.line X.env = pure true) (hy : X.N[j]? = some y := by rfl) (hyl : X.env.scope.names.lookup y = some .local := by rfl)
    (hvs : own.map (·.2) = vs := by rfl) (hv : i ∈ vs := by decide) (hN : X.N[i]? = some x := by rfl) (hs : ∀ y, foldedSetIterable iter X.env y = pure y := by intro _; rfl) :
    DS R X W (.Assign [.Name y py] (.ListComp elt [⟨.Name x tp, iter, [c], 0⟩] scope pos) spos) (sSet j (dLc vs (tgN i) fi ft fe)) := by
  subst hvs
  rw [← dLcG_any]
  exact ds_setLc C gok0 hy hyl hsw hi ok (pgB C.nd hN hx) (tgW_name i hv) (fun s H Cc cl fp => pts_one (ht s H Cc cl fp (C.blk s H scope _ fp)).can) mt_of (fun s H Cc cl fp => he s H Cc cl fp (C.blk s H scope _ fp)) hs
end
end WB
namespace WB
open PySem PySem.Spec PyProof.Rows L2
/-! ### the classes of errors by number -/
def caOf (a0 a1 a2 a3 a4 a5 a6 : Addr) : Nat → Addr
  | 0 => a0
  | 1 => a1
  | 2 => a2
  | 3 => a3
  | 4 => a4
  | 5 => a5
  | 6 => a6
  | _ + 7 => a0
def cnum : Nat → Nat
  | 0 => 0
  | 1 => 1
  | 2 => 2
  | 3 => 3
  | 4 => 4
  | 5 => 5
  | 6 => 6
  | _ + 7 => 0
def is_BadRow (c : Nat) : Bool := cnum c == 0
def is_BadStretch (c : Nat) : Bool := cnum c == 1
def is_BadSize (c : Nat) : Bool := cnum c == 2
def is_BadTold (c : Nat) : Bool := cnum c == 3
def is_NoRow (c : Nat) : Bool := cnum c == 4
def is_BadNumber (c : Nat) : Bool := cnum c == 5
def is_BadText (c : Nat) : Bool := cnum c == 6
def is_ValueError (_ : Nat) : Bool := true
theorem cx_false {P : Program} {w : World} {outer : List Env} {H : Hp} {s : Shared} {e : Value} {s' : Shared} (h : L2.CX P w outer H s (fun _ _ _ => False) e s') : False := by
  obtain ⟨_, _, _, _, _, _, _, _, _, _, _, _, z⟩ := h
  exact z
end WB
namespace WB
open PySem PySem.Spec PyProof.Rows L2
/-! ### the law's end -/
def spLaw (K : PySem.W.Frag) : Sp := fun vs H Q _ => ∃ (a : Addr) (ns : List Int), vs = [.ref a] ∧ SqL K H a (ns.map V.int) ∧ ns.length ≤ 63 ∧ ∀ H', Q (.bl true) H'
theorem law_end {R : Rx} {P : Program} {w : World} {mg : Str → Option Value} {base : Heap} {k : Nat} {f : Addr} {fd : FuncData} {m : FnF} (F : FnOk P w R.K mg base (L2.CX P w) k f fd ["script"] (spD R 1 m)) (h : ∀ ns : List Int, ns.length ≤ 63 → ∃ st, m [.scr ns] [] = .ok (.dat (.bool true)) st) :
    FnOk P w R.K mg base (L2.CX P w) k f fd ["script"] (spLaw R.K) := by
  refine F.imp fun vs H Q E hh => ?_
  obtain ⟨a, ns, rfl, hs, hl, q⟩ := hh
  obtain ⟨st, e⟩ := h ns hl
  refine ⟨rfl, ⟨H, []⟩, [], [.scr ns], ⟨Same.refl _, [], .nil, List.nodup_nil, fun b hb => by simp at hb⟩, .cons ⟨a, rfl, hs⟩ .nil, ?_⟩
  rw [e]
  intro x H' w' _ _ r
  cases r
  exact q H'
end WB

set_option maxRecDepth 100000
set_option maxHeartbeats 4000000
namespace WB
open PySem PySem.Spec PyProof.Rows L2
/-! ### code that a law never reaches: no promise -/
def eBad : EF := fun _ _ => .bad
def sBad : SF := fun _ _ => .bad
section
variable {R : Rx} {X : Cx} {W : WX} {k : Nat}
theorem de_bad {e : Expr} : DE R X W e eBad := ⟨fun _ _ _ => False, ⟨fun _ _ _ _ _ _ h => h.elim⟩, fun _ _ _ _ _ _ _ _ P => P.elim⟩
theorem ds_bad {s : Stmt} : DS R X W s sBad := ⟨fun _ _ _ => False, ⟨fun _ _ _ _ _ _ h => h.elim⟩, fun _ _ _ _ _ _ _ _ P => P.elim⟩
theorem dss_bad {s : List Stmt} : DSs R X W s sBad := ⟨fun _ _ _ => False, ⟨fun _ _ _ _ _ _ h => h.elim⟩, fun _ _ _ _ _ _ _ _ P => P.elim⟩
/-! ### min(a, b) -/
def gMin2 (vs : List DV) (st : List Cell) : ER DV := match vs with
  | [.dat (.int i), .dat (.int j)] => .ok (.dat (.int (if j < i then j else i))) st
  | _ => .bad
theorem cm_min2 : CallMt R (fun xs H Q => ∃ i j, xs = [.int i, .int j] ∧ Q (.int (if j < i then j else i)) H) gMin2 := by
  intro W σ w H st xs vs Q S r P
  unfold gMin2 at P
  split at P
  · cases r with
    | cons h1 h2 =>
      cases h2 with
      | cons h2 h3 =>
        cases h3; cases h1; cases h2
        exact ⟨_, _, rfl, P.here S (.int _)⟩
  · exact P.elim
theorem de_min2 (C : Ct R X W k) {p pos : Pos} {e e2 : Expr} {fa fb : EF} (hm : X.mg "min" = none) (ha : DE R X W e fa) (hb : DE R X W e2 fb) (hg : Gl X "min" := by rfl) (he : starEach [e, e2] X.env = (false, eval e X.env) :: starEach [e2] X.env := by rfl)
    (he2 : starEach [e2] X.env = (false, eval e2 X.env) :: starEach [] X.env := by rfl) (hpl : (backTo pos (starEach [e2] X.env)).any (·.1) = false := by rfl) : DE R X W (.Call (.Name "min" p) [e, e2] [] pos) (dCB gMin2 (dCons fa (dCons fb dNil))) :=
  de_callB (call_min2 C.calm) cm_min2 hm (by decide +kernel) (da_cons ha (da_cons hb da_nil he2) he) hg (he := he) (hpl := hpl)
/-! ### list(range(n)) -/
open Classical in
noncomputable def dListRange (mk : Bool) (fa : EF) : EF := fun δ st => (fa δ st).bd fun v st1 => match v with
  | .dat (.int n) => if InRg n ∧ n.toNat ≤ 1000000 then newL mk (rngD 0 n.toNat) st1 else .bad
  | _ => .bad
theorem dtAll_map {K : PySem.W.Frag} {F : Hp} {α : Type} (f : α → V) (g : α → PyData) (h : ∀ a, Dt K F (f a) (g a)) : ∀ l : List α, DtAll K F (l.map f) (l.map g)
  | [] => .nil
  | a :: l => .cons (h a) (dtAll_map f g h l)
theorem de_listrange (C : Ct R X W k) (mk : Bool) {p p2 pos pos2 : Pos} {e : Expr} {fa : EF} (hl : X.mg "list" = none) (hr : X.mg "range" = none) (ha : DE R X W e fa) (hgl : Gl X "list" := by rfl) (hgr : Gl X "range" := by rfl)
    (he : starEach [e] X.env = (false, eval e X.env) :: starEach [] X.env := by rfl)
    (hf : starEach [.Call (.Name "range" p2) [e] [] pos2] X.env = (false, eval (.Call (.Name "range" p2) [e] [] pos2) X.env) :: starEach [] X.env := by rfl) : DE R X W (.Call (.Name "list" p) [.Call (.Name "range" p2) [e] [] pos2] [] pos) (dListRange mk fa) := by
  obtain ⟨t, pa, m⟩ := ha
  refine ⟨_, pe_listRg C.calm hgl hl (prg_1 hgr hr pa he) hf, fun w H σ δ st Q S L P => ?_⟩
  refine m.seq S L P fun v st1 x H1 w1 l1 S1 L1 r1 P1 => ?_
  split at P1
  · rename_i n
    cases r1
    split at P1
    · rename_i hc
      obtain ⟨⟨c1, c2⟩, c3⟩ := hc
      refine ⟨n, rfl, ⟨by decide, by decide, c1, c2, ?_⟩, fun q hq => new_lst S1 ?_ P1 hq⟩
      · rw [Int.sub_zero]; exact Nat.le_trans c3 (by decide)
      · unfold rgV rngD
        rw [Int.sub_zero]
        exact dtAll_map _ _ (fun _ => .int _) _
    · exact P1.elim
  · exact P1.elim
theorem words_dt {K : PySem.W.Frag} {a : Addr} {od : Option Addr} {sl : Array (Option Value)} {n : Nat} {t1 t2 : Tok} (y : K.lookup a = some ⟨.type "tuple", od, .seq #[.str "greatest" t1, .str "least" t2] n, sl⟩) (F : Hp) : Dt K F (.ref a) (.tuple [.str "greatest", .str "least"]) :=
  .tup (xs := [.str "greatest", .str "least"]) (.inr ⟨_, _, _, y, rfl, rfl, by rw [sizeLine_eq]; show 2 ≤ _; decide, .cons ⟨_, rfl⟩ (.cons ⟨_, rfl⟩ .nil)⟩) (.cons (.str _) (.cons (.str _) .nil))
/-! ### t[a:b] of a tuple -/
def dSlT (fa : EF) (fl fh : OF) : EF := fun δ st => (fa δ st).bd fun a st1 => (fl δ st1).bd fun lo st2 => (fh δ st2).bd fun hi st3 => match rdT a with
  | some xs => .ok (.dat (.tuple (cutD xs lo hi))) st3
  | none => .bad
theorem cutD_whole {xs : List PyData} {lo hi : Option Int} (h : HT.sIx xs.length 0 lo = 0 ∧ HT.sIx xs.length xs.length hi = xs.length) : cutD xs lo hi = xs := by
  unfold cutD
  rw [h.1, h.2, List.drop_zero, Nat.sub_zero, List.take_length]
theorem de_slT (C : Ct R X W k) {e : Expr} {lo hi : Option Expr} {pos p2 : Pos} {fa : EF} {fl fh : OF} (ha : DE R X W e fa) (hl : DO R X W lo fl) (hh : DO R X W hi fh) : DE R X W (.Subscript e (.Slice lo hi none p2) pos) (dSlT fa fl fh) := by
  obtain ⟨ta, pa, ma⟩ := ha
  obtain ⟨tl, pl, ml⟩ := hl
  obtain ⟨th, ph, mh⟩ := hh
  refine ⟨_, pe_slice sl_tupA pa pl ph, fun w H σ δ st Q S L P => ?_⟩
  refine ma.seq S L P fun v st1 x H1 w1 l1 S1 L1 r1 P1 => ?_
  refine ml.seq S1 L1 P1 fun lo st2 lo' H2 w2 l2 S2 L2 r2 P2 => ?_
  refine mh.seq S2 L2 P2 fun hi st3 hi' H3 w3 l3 S3 L3 r3 P3 => ?_
  cases r2; cases r3
  split at P3
  · rename_i xs e
    have r1' := (r1.mono l2).mono l3
    obtain ⟨a, vs, rfl, h1, h2⟩ := rdT_ok S3 r1' e
    refine ⟨a, vs, rfl, by rw [C.hK]; exact h1, fun hw => ?_, fun _ p hp => new_tup S3 (cut_of h2) P3 hp⟩
    rw [h2.length] at hw
    rw [cutD_whole hw] at P3
    have ev : v = .dat (.tuple xs) := by
      unfold rdT at e
      split at e
      · cases e; rfl
      · cases e
    rw [ev] at r1'
    exact P3.here S3 r1'
  · exact P3.elim
/-! ### a test that is a if t else b -/
theorem pt_ifE {tc ta tb : TT} {c a b : Expr} {pos : Pos} (hc : PT X c tc) (ha : PT X a ta) (hb : PT X b tb) : PT X (.IfExp c a b pos) (fun σ H Q => tc σ H fun d H1 => if d = true then ta σ H1 Q else tb σ H1 Q) := by
  refine ⟨fun pins s σ H Q I h => ?_⟩
  show wpAny _ _ (PySem.isTrue c X.env (eval c X.env) >>= fun d => if d = true then PySem.isTrue a X.env (eval a X.env) else PySem.isTrue b X.env (eval b X.env)) _ _ _
  refine wpAny_bind (thn (hc.run pins s σ H _ I h) fun d s1 ⟨H1, I1, q1⟩ => ?_)
  cases d with
  | true => exact ha.run pins s1 σ H1 Q I1 q1
  | false => exact hb.run pins s1 σ H1 Q I1 q1
def dIfT (c f g : TF) : TF := fun δ st => (c δ st).bd fun b st1 => if b = true then f δ st1 else g δ st1
theorem dt_if {c a b : Expr} {pos : Pos} {fc f g : TF} (hc : DT R X W c fc) (ha : DT R X W a f) (hb : DT R X W b g) : DT R X W (.IfExp c a b pos) (dIfT fc f g) := by
  obtain ⟨tc, pc, mc⟩ := hc
  obtain ⟨ta, pa, ma⟩ := ha
  obtain ⟨tb, pb, mb⟩ := hb
  refine ⟨_, pt_ifE pc pa pb, fun w H σ δ st Q S L P => ?_⟩
  refine mc.seq S L P fun v st1 x H1 w1 l1 S1 L1 r1 P1 => ?_
  cases r1
  cases v with
  | true => exact ma w1 H1 σ δ st1 Q S1 L1 P1
  | false => exact mb w1 H1 σ δ st1 Q S1 L1 P1
end
end WB

set_option maxRecDepth 100000
set_option maxHeartbeats 4000000
namespace WB
open PySem PySem.Spec PyProof.Rows L2
/-! ### a list that won't be changed any more is data from here on (no step of the program) -/
def sFrz (j : Nat) (f : SF) : SF := fun δ st => match δ[j]? with
  | some .un => .bad
  | some v => (match frzV v st with
    | .ok d st' => f (δ.set j (.dat d)) st'
    | _ => .bad)
  | none => .bad
section
variable {R : Rx} {X : Cx} {W : WX} {k : Nat}
theorem set_self {α : Type} : ∀ {l : List α} {i : Nat} {x : α}, l[i]? = some x → l.set i x = l
  | [], _, _, e => by simp at e
  | y :: l, 0, x, e => by simp at e; subst e; rfl
  | y :: l, i + 1, x, e => by rw [List.set_cons_succ, set_self (l := l) (i := i) (by simpa using e)]
theorem mts_frz {t : TS} {f : SF} (j : Nat) (h : MtS R W t f) : MtS R W t (sFrz j f) := by
  intro w H σ δ st D S L P
  unfold sFrz at P
  split at P
  · exact P.elim
  · rename_i v hv e
    rcases L.get e with q | ⟨x, q, r⟩
    · exact absurd q hv
    · split at P
      · rename_i d st' e2
        obtain ⟨w', l', S', h'⟩ := frzV_ok S r e2
        have L' : SlR R w' σ (δ.set j (.dat d)) := by
          have := SlR.set (R := R) (w := w') (x := x) (d := .dat d) h' j (L.mono l')
          rwa [set_self q] at this
        exact h w' H σ _ st' D S' L' (PostS.mono l' P)
      · exact P.elim
  · exact P.elim
theorem dss_frz {ss : List Stmt} {f : SF} (j : Nat) (h : DSs R X W ss f) : DSs R X W ss (sFrz j f) := let ⟨t, p, m⟩ := h; ⟨t, p, mts_frz j m⟩
end
end WB

set_option maxRecDepth 100000
set_option maxHeartbeats 4000000
namespace PG
open PySem PySem.Spec PyProof.Rows L2 WB
def d_WORDS : PyData := .tuple [.str "greatest", .str "least"]
noncomputable def lc1_look_row_e : EF := (dChain (dCmp fun i j => decide (i ≤ j)) (dCmp fun i j => decide (i ≤ j)) (dC (.int 0)) (dVar 1) (dC (.int 9)))
noncomputable def lc1_look_row : EF := dLc [1] (tgN 1) (iList (dVar 0)) tYesF lc1_look_row_e
noncomputable def b_look_row : SF :=
  (sIf (dOr (dNot (dT (dChain (dCmp fun i j => decide (i ≤ j)) (dCmp fun i j => decide (i ≤ j)) (dC (.int 1)) (dCB gLen (dCons (dVar 0) dNil)) (dC (.int 8))))) (dNot (dTru (dCB gAllB (dCons lc1_look_row dNil)))))
    (sRaise 0)
    sNil)
noncomputable def m_look_row : FnF := fnD 2 b_look_row
noncomputable def b_look_stretch : SF :=
  (sSeq (sExpr (dCall 1 m_look_row (dCons (dVar 0) dNil)))
    (sIf (dNot (dT (dChain3 (dCmp fun i j => decide (i ≤ j)) (dCmp fun i j => decide (i ≤ j)) (dCmp fun i j => decide (i < j)) (dC (.int 0)) (dVar 1) (dVar 2) (dCB gLen (dCons (dVar 0) dNil)))))
    (sRaise 1)
    sNil))
noncomputable def m_look_stretch : FnF := fnD 3 b_look_stretch
noncomputable def b_greatest : SF :=
  (sSeq (sExpr (dCall 3 m_look_stretch (dCons (dVar 0) (dCons (dVar 1) (dCons (dVar 2) dNil)))))
    (sRet (dCB gMax (dCons (dSl false (dVar 0) (oSome (dVar 1)) (oSome (dOp (dAdd false) (dVar 2) (dC (.int 1))))) dNil))))
noncomputable def m_greatest : FnF := fnD 3 b_greatest
noncomputable def b_least : SF :=
  (sSeq (sExpr (dCall 3 m_look_stretch (dCons (dVar 0) (dCons (dVar 1) (dCons (dVar 2) dNil)))))
    (sRet (dCB gMin (dCons (dSl false (dVar 0) (oSome (dVar 1)) (oSome (dOp (dAdd false) (dVar 2) (dC (.int 1))))) dNil))))
noncomputable def m_least : FnF := fnD 3 b_least
noncomputable def b_look_width : SF :=
  (sSeq (sExpr (dCall 1 m_look_row (dCons (dVar 0) dNil)))
    (sIf (dNot (dT (dChain (dCmp fun i j => decide (i ≤ j)) (dCmp fun i j => decide (i ≤ j)) (dC (.int 1)) (dVar 1) (dCB gLen (dCons (dVar 0) dNil)))))
    (sRaise 1)
    sNil))
noncomputable def m_look_width : FnF := fnD 2 b_look_width
noncomputable def lc1_greatest_by_e : EF := (dCB gMax (dCons (dSl false (dVar 0) (oSome (dVar 2)) (oSome (dOp (dAdd false) (dVar 2) (dVar 1)))) dNil))
noncomputable def lc1_greatest_by : EF := dLc [2] (tgN 2) (iRange1 (dCons (dOp (dAdd false) (dOp (dInt0 fun i j => i - j) (dCB gLen (dCons (dVar 0) dNil)) (dVar 1)) (dC (.int 1))) dNil)) tYesF lc1_greatest_by_e
noncomputable def b_greatest_by : SF :=
  (sSeq (sExpr (dCall 2 m_look_width (dCons (dVar 0) (dCons (dVar 1) dNil))))
    (sRet lc1_greatest_by))
noncomputable def m_greatest_by : FnF := fnD 3 b_greatest_by
noncomputable def lc1_least_by_e : EF := (dCB gMin (dCons (dSl false (dVar 0) (oSome (dVar 2)) (oSome (dOp (dAdd false) (dVar 2) (dVar 1)))) dNil))
noncomputable def lc1_least_by : EF := dLc [2] (tgN 2) (iRange1 (dCons (dOp (dAdd false) (dOp (dInt0 fun i j => i - j) (dCB gLen (dCons (dVar 0) dNil)) (dVar 1)) (dC (.int 1))) dNil)) tYesF lc1_least_by_e
noncomputable def b_least_by : SF :=
  (sSeq (sExpr (dCall 2 m_look_width (dCons (dVar 0) (dCons (dVar 1) dNil))))
    (sRet lc1_least_by))
noncomputable def m_least_by : FnF := fnD 3 b_least_by
noncomputable def wh1_reach_c : TF := (dAnd (dT (dOp (dCmp fun i j => decide (j < i)) (dVar 2) (dC (.int 0)))) (dT (dOp (dCmp fun i j => decide (i ≤ j)) (dOp dIx (dVar 0) (dOp (dInt0 fun i j => i - j) (dVar 2) (dC (.int 1)))) (dOp dIx (dVar 0) (dVar 1)))))
noncomputable def wh1_reach_b : SF :=
  (sSet 2 (dOp (dInt0 fun i j => i - j) (dVar 2) (dC (.int 1))))
noncomputable def wh1_reach : SF := whileN wh1_reach_c wh1_reach_b 20
noncomputable def wh2_reach_c : TF := (dAnd (dT (dOp (dCmp fun i j => decide (i < j)) (dOp (dAdd false) (dVar 3) (dC (.int 1))) (dCB gLen (dCons (dVar 0) dNil)))) (dT (dOp (dCmp fun i j => decide (i ≤ j)) (dOp dIx (dVar 0) (dOp (dAdd false) (dVar 3) (dC (.int 1)))) (dOp dIx (dVar 0) (dVar 1)))))
noncomputable def wh2_reach_b : SF :=
  (sSet 3 (dOp (dAdd false) (dVar 3) (dC (.int 1))))
noncomputable def wh2_reach : SF := whileN wh2_reach_c wh2_reach_b 20
noncomputable def b_reach : SF :=
  (sSeq (sExpr (dCall 3 m_look_stretch (dCons (dVar 0) (dCons (dVar 1) (dCons (dVar 1) dNil)))))
    (sSeq (sSet 2 (dVar 1))
    (sSeq wh1_reach
    (sSeq (sSet 3 (dVar 1))
    (sSeq wh2_reach
    (sRet (dTup (dCons (dVar 2) (dCons (dVar 3) dNil)))))))))
noncomputable def m_reach : FnF := fnD 4 b_reach
noncomputable def b__law_cell : SF :=
  (sSeq (sIf (dTru (dVar 0))
    (sRet (dOp dIx (dVar 0) (dOp (dInt cMod fun i j => i % j) (dVar 1) (dCB gLen (dCons (dVar 0) dNil)))))
    sNil)
    (sRet (dC (.int 0))))
noncomputable def m__law_cell : FnF := fnD 2 b__law_cell
noncomputable def b__law_mix : SF :=
  (sSeq (sSet 2 (dOp (dInt cMod fun i j => i % j) (dOp (dAdd false) (dCall 2 m__law_cell (dCons (dVar 0) (dCons (dVar 1) dNil))) (dOp (dMul false) (dC (.int 104729)) (dOp (dAdd false) (dVar 1) (dC (.int 1))))) (dC (.int 4294967291))))
    (sSeq (sSet 2 (dOp (dInt cMod fun i j => i % j) (dOp (dInt cPow fun i j => i ^ j.toNat) (dVar 2) (dC (.int 5))) (dC (.int 4294967279))))
    (sRet (dOp (dInt cMod fun i j => i % j) (dOp (dAdd false) (dOp (dMul false) (dOp (dInt cDiv fun i j => i / j) (dVar 2) (dC (.int 64))) (dC (.int 69621))) (dVar 2)) (dC (.int 4294967231))))))
noncomputable def m__law_mix : FnF := fnD 3 b__law_mix
noncomputable def b__law_draw : SF :=
  (sSeq (sExpr (dMtd mAppend (dVar 1) (dCons (dC (.int 0)) dNil)))
    (sRet (dOp (dInt cMod fun i j => i % j) (dOp (dInt cDiv fun i j => i / j) (dCall 2 m__law_mix (dCons (dVar 0) (dCons (dCB gLen (dCons (dVar 1) dNil)) dNil))) (dC (.int 8))) (dVar 2))))
noncomputable def m__law_draw : FnF := fnD 3 b__law_draw
noncomputable def b__law_pick : SF :=
  (sRet (dOp dIx (dVar 2) (dCall 3 m__law_draw (dCons (dVar 0) (dCons (dVar 1) (dCons (dCB gLen (dCons (dVar 2) dNil)) dNil))))))
noncomputable def m__law_pick : FnF := fnD 3 b__law_pick
noncomputable def b__law_refusal : SF :=
  (sSeq (sIf (dT (dOp dIsN (dVar 0) (dC .none)))
    (sRet (dTup (dCons (dC (.str "ok")) dNil)))
    sNil)
    (sSeq (sSet 1 (dLst true (dCons (dIsI is_BadRow (dVar 0)) (dCons (dIsI is_BadStretch (dVar 0)) (dCons (dIsI is_BadSize (dVar 0)) dNil)))))
    (sSeq (sSet 1 (dOp (dAdd true) (dVar 1) (dLst false (dCons (dIsI is_BadTold (dVar 0)) (dCons (dIsI is_NoRow (dVar 0)) (dCons (dIsI is_BadNumber (dVar 0)) dNil))))))
    (sSeq (sExpr (dMtd mAppend (dVar 1) (dCons (dIsI is_BadText (dVar 0)) dNil)))
    (sSeq (sIf (dOr (dT (dOp dNe (dMtd mCount (dVar 1) (dCons (dC (.bool true)) dNil)) (dC (.int 1)))) (dNot (dTru (dIsI is_ValueError (dVar 0)))))
    (sRet (dTup (dCons (dC (.str "wrong")) dNil)))
    sNil)
    (sSeq (sSet 2 (dLst false (dCons (dC (.str "row")) (dCons (dC (.str "stretch")) (dCons (dC (.str "size")) (dCons (dC (.str "told")) (dCons (dC (.str "no row")) (dCons (dC (.str "number")) (dCons (dC (.str "text")) dNil)))))))))
    (sRet (dTup (dCons (dC (.str "refused")) (dCons (dOp dIx (dVar 2) (dMtd mIndex (dVar 1) (dCons (dC (.bool true)) dNil))) dNil))))))))))
noncomputable def m__law_refusal : FnF := fnD 3 b__law_refusal
noncomputable def lc1__law_row_e : EF := (dCall 3 m__law_draw (dCons (dVar 0) (dCons (dVar 1) (dCons (dOp (dAdd false) (dVar 3) (dC (.int 1))) dNil))))
noncomputable def lc1__law_row : EF := dLc [4] (tgN 4) (iRange1 (dCons (dOp (dAdd false) (dC (.int 1)) (dCall 3 m__law_draw (dCons (dVar 0) (dCons (dVar 1) (dCons (dVar 2) dNil))))) dNil)) tYesF lc1__law_row_e
noncomputable def b__law_row : SF :=
  (sRet lc1__law_row)
noncomputable def m__law_row : FnF := fnD 5 b__law_row
noncomputable def b_look_sizes : SF :=
  (sIf (dOr (dNot (dT (dChain (dCmp fun i j => decide (i ≤ j)) (dCmp fun i j => decide (i ≤ j)) (dC (.int 1)) (dVar 0) (dC (.int 8))))) (dNot (dT (dChain (dCmp fun i j => decide (i ≤ j)) (dCmp fun i j => decide (i ≤ j)) (dC (.int 0)) (dVar 1) (dC (.int 9))))))
    (sRaise 2)
    sNil)
noncomputable def m_look_sizes : FnF := fnD 2 b_look_sizes
noncomputable def b_is_fact : SF :=
  (sSeq (sIf (dOr (dT (dOp dNe (dCB gLen (dCons (dVar 2) dNil)) (dC (.int 4)))) (dT (dOp (dIn true) (dOp dIx (dVar 2) (dC (.int 0))) (dC d_WORDS))))
    (sRet (dC (.bool false)))
    sNil)
    (sRet (dAndV (dChain3 (dCmp fun i j => decide (i ≤ j)) (dCmp fun i j => decide (i ≤ j)) (dCmp fun i j => decide (i < j)) (dC (.int 0)) (dOp dIx (dVar 2) (dC (.int 1))) (dOp dIx (dVar 2) (dC (.int 2))) (dVar 0)) (dChain (dCmp fun i j => decide (i ≤ j)) (dCmp fun i j => decide (i ≤ j)) (dC (.int 0)) (dOp dIx (dVar 2) (dC (.int 3))) (dVar 1)))))
noncomputable def m_is_fact : FnF := fnD 3 b_is_fact
noncomputable def lc1_look_told_e : EF := (dCall 3 m_is_fact (dCons (dVar 0) (dCons (dVar 1) (dCons (dVar 3) dNil))))
noncomputable def lc1_look_told : EF := dLc [3] (tgN 3) (iList (dVar 2)) tYesF lc1_look_told_e
noncomputable def b_look_told : SF :=
  (sSeq (sExpr (dCall 2 m_look_sizes (dCons (dVar 0) (dCons (dVar 1) dNil))))
    (sIf (dOr (dT (dOp (dCmp fun i j => decide (j < i)) (dCB gLen (dCons (dVar 2) dNil)) (dC (.int 6)))) (dNot (dTru (dCB gAllB (dCons lc1_look_told dNil)))))
    (sRaise 3)
    sNil))
noncomputable def m_look_told : FnF := fnD 4 b_look_told
noncomputable def ie1_worth_of : EF := dIf (dT (dOp dEq (dOp dIx (dVar 1) (dC (.int 0))) (dC (.str "greatest")))) (dCB gMax (dCons (dVar 2) dNil)) (dCB gMin (dCons (dVar 2) dNil))
noncomputable def b_worth_of : SF :=
  (sSeq (sSet 2 (dSl false (dVar 0) (oSome (dOp dIx (dVar 1) (dC (.int 1)))) (oSome (dOp (dAdd false) (dOp dIx (dVar 1) (dC (.int 2))) (dC (.int 1))))))
    (sRet ie1_worth_of))
noncomputable def m_worth_of : FnF := fnD 3 b_worth_of
noncomputable def lc1_keeps_e : EF := (dOp dEq (dCall 2 m_worth_of (dCons (dVar 0) (dCons (dVar 2) dNil))) (dOp dIx (dVar 2) (dC (.int 3))))
noncomputable def lc1_keeps : EF := dLc [2] (tgN 2) (iList (dVar 1)) tYesF lc1_keeps_e
noncomputable def b_keeps : SF :=
  (sRet (dCB gAllB (dCons lc1_keeps dNil)))
noncomputable def m_keeps : FnF := fnD 3 b_keeps
noncomputable def lc1_is_row_of_e : EF := (dChain (dCmp fun i j => decide (i ≤ j)) (dCmp fun i j => decide (i ≤ j)) (dC (.int 0)) (dVar 3) (dVar 1))
noncomputable def lc1_is_row_of : EF := dLc [3] (tgN 3) (iList (dVar 2)) tYesF lc1_is_row_of_e
noncomputable def b_is_row_of : SF :=
  (sRet (dAndV (dOp dEq (dCB gLen (dCons (dVar 2) dNil)) (dVar 0)) (dCB gAllB (dCons lc1_is_row_of dNil))))
noncomputable def m_is_row_of : FnF := fnD 4 b_is_row_of
noncomputable def lc1_broken_e : EF := (dVar 4)
noncomputable def lc1_broken_t : TF := (dT (dOp dNe (dCall 2 m_worth_of (dCons (dVar 3) (dCons (dOp dIx (dVar 2) (dVar 4)) dNil))) (dOp dIx (dOp dIx (dVar 2) (dVar 4)) (dC (.int 3)))))
noncomputable def lc1_broken : EF := dLc [4] (tgN 4) (iRange1 (dCons (dCB gLen (dCons (dVar 2) dNil)) dNil)) lc1_broken_t lc1_broken_e
noncomputable def b_broken : SF :=
  (sSeq (sExpr (dCall 3 m_look_told (dCons (dVar 0) (dCons (dVar 1) (dCons (dVar 2) dNil)))))
    (sSeq (sExpr (dCall 1 m_look_row (dCons (dVar 3) dNil)))
    (sSeq (sIf (dNot (dTru (dCall 3 m_is_row_of (dCons (dVar 0) (dCons (dVar 1) (dCons (dVar 3) dNil))))))
    (sRet (dListRange false (dCB gLen (dCons (dVar 2) dNil))))
    sNil)
    (sRet lc1_broken))))
noncomputable def m_broken : FnF := fnD 5 b_broken
noncomputable def lc1_bounds_e : EF := (dVar 8)
noncomputable def lc1_bounds_t : TF := (dT (dChain (dCmp fun i j => decide (i ≤ j)) (dCmp fun i j => decide (i ≤ j)) (dOp dIx (dVar 8) (dC (.int 1))) (dVar 4) (dOp dIx (dVar 8) (dC (.int 2)))))
noncomputable def lc1_bounds : EF := dLc [8] (tgN 8) (iList (dVar 2)) lc1_bounds_t lc1_bounds_e
noncomputable def lc2_bounds_e : EF := (dOp dIx (dVar 8) (dC (.int 3)))
noncomputable def lc2_bounds_t : TF := (dT (dOp dEq (dOp dIx (dVar 8) (dC (.int 0))) (dC (.str "least"))))
noncomputable def lc2_bounds : EF := dLc [8] (tgN 8) (iList (dVar 5)) lc2_bounds_t lc2_bounds_e
noncomputable def lc3_bounds_e : EF := (dOp dIx (dVar 8) (dC (.int 3)))
noncomputable def lc3_bounds_t : TF := (dT (dOp dEq (dOp dIx (dVar 8) (dC (.int 0))) (dC (.str "greatest"))))
noncomputable def lc3_bounds : EF := dLc [8] (tgN 8) (iList (dVar 5)) lc3_bounds_t lc3_bounds_e
noncomputable def ie4_bounds : EF := dIf (dT (dOp (dCmp fun i j => decide (i ≤ j)) (dVar 6) (dVar 7))) (dTup (dCons (dVar 6) (dCons (dVar 7) dNil))) (dC .none)
noncomputable def fo5_bounds_b : SF :=
  (sSeq (sSet 5 lc1_bounds)
    (sSeq (sSet 6 (dCB gMax (dCons (dOp (dAdd false) lc2_bounds (dLst false (dCons (dC (.int 0)) dNil))) dNil)))
    (sSeq (sSet 7 (dCB gMin (dCons (dOp (dAdd false) lc3_bounds (dLst false (dCons (dVar 1) dNil))) dNil)))
    (sExpr (dMtd mAppend (dVar 3) (dCons ie4_bounds dNil))))))
noncomputable def fo5_bounds : SF := (sFor (tgN 4) (iRange1 (dCons (dVar 0) dNil)) fo5_bounds_b)
noncomputable def b_bounds : SF :=
  (sSeq (sExpr (dCall 3 m_look_told (dCons (dVar 0) (dCons (dVar 1) (dCons (dVar 2) dNil)))))
    (sSeq (sSet 3 (dLst true dNil))
    (sSeq fo5_bounds
    (sRet (dVar 3)))))
noncomputable def m_bounds : FnF := fnD 9 b_bounds
noncomputable def ie1_parts : EF := dIf (dTru (dVar 5)) (dOp (dAdd false) (dOp dIx (dVar 5) (dNeg (dC (.int 1)))) (dC (.int 1))) (dC (.int 0))
noncomputable def lc2_parts_e : EF := (dOp (dAdd false) (dVar 5) (dLst false (dCons (dVar 6) dNil)))
noncomputable def lc2_parts : EF := dLc [6] (tgN 6) (iRange2 (dCons ie1_parts (dCons (dVar 0) dNil))) tYesF lc2_parts_e
noncomputable def fo3_parts_b : SF :=
  (sExpr (dMtd mExtend (dVar 4) (dCons lc2_parts dNil)))
noncomputable def fo3_parts : SF := (sFor (tgN 5) (iList (dVar 2)) fo3_parts_b)
noncomputable def fo4_parts_b : SF :=
  (sSeq (sSet 4 (dLst true dNil))
    (sSeq fo3_parts
    (sSet 2 (dVar 4))))
noncomputable def fo4_parts : SF := (sFor (tgN 3) (iRange1 (dCons (dVar 1) dNil)) fo4_parts_b)
noncomputable def b_parts : SF :=
  (sSeq (sSet 2 (dLst false (dCons (dLst false dNil) dNil)))
    (sSeq fo4_parts
    (sRet (dVar 2))))
noncomputable def m_parts : FnF := fnD 7 b_parts
noncomputable def b_look_fact : SF :=
  (sSeq (sExpr (dCall 3 m_look_told (dCons (dVar 0) (dCons (dVar 1) (dCons (dVar 2) dNil)))))
    (sIf (dNot (dTru (dCall 3 m_is_fact (dCons (dVar 0) (dCons (dVar 1) (dCons (dVar 3) dNil))))))
    (sRaise 3)
    sNil))
noncomputable def m_look_fact : FnF := fnD 4 b_look_fact
noncomputable def b__law_fact : SF :=
  (sSeq (sSet 4 (dCall 3 m__law_draw (dCons (dVar 0) (dCons (dVar 1) (dCons (dVar 2) dNil)))))
    (sSeq (sSet 5 (dCB gMin2 (dCons (dOp (dInt0 fun i j => i - j) (dVar 2) (dC (.int 1))) (dCons (dOp (dAdd false) (dVar 4) (dCall 3 m__law_draw (dCons (dVar 0) (dCons (dVar 1) (dCons (dCall 3 m__law_pick (dCons (dVar 0) (dCons (dVar 1) (dCons (dLst false (dCons (dC (.int 1)) (dCons (dC (.int 2)) (dCons (dC (.int 3)) (dCons (dVar 2) dNil))))) dNil)))) dNil))))) dNil))))
    (sSeq (sSet 6 (dCall 3 m__law_pick (dCons (dVar 0) (dCons (dVar 1) (dCons (dLst false (dCons (dC (.str "greatest")) (dCons (dC (.str "least")) dNil))) dNil)))))
    (sRet (dTup (dCons (dVar 6) (dCons (dVar 4) (dCons (dVar 5) (dCons (dCall 3 m__law_draw (dCons (dVar 0) (dCons (dVar 1) (dCons (dOp (dAdd false) (dVar 3) (dC (.int 1))) dNil)))) dNil)))))))))
noncomputable def m__law_fact : FnF := fnD 7 b__law_fact
noncomputable def fo1__law_worth_b : SF :=
  (sIf (dT (dOp dEq (dOp (dCmp fun i j => decide (j < i)) (dOp dIx (dVar 0) (dVar 3)) (dVar 2)) (dOp dEq (dOp dIx (dVar 1) (dC (.int 0))) (dC (.str "greatest")))))
    (sSet 2 (dOp dIx (dVar 0) (dVar 3)))
    sNil)
noncomputable def fo1__law_worth : SF := (sFor (tgN 3) (iRange2 (dCons (dOp dIx (dVar 1) (dC (.int 1))) (dCons (dOp (dAdd false) (dOp dIx (dVar 1) (dC (.int 2))) (dC (.int 1))) dNil))) fo1__law_worth_b)
noncomputable def b__law_worth : SF :=
  (sSeq (sSet 2 (dOp dIx (dVar 0) (dOp dIx (dVar 1) (dC (.int 1)))))
    (sSeq fo1__law_worth
    (sRet (dVar 2))))
noncomputable def m__law_worth : FnF := fnD 4 b__law_worth
noncomputable def lc1__law_told_of_e : EF := (dCall 3 m__law_draw (dCons (dVar 0) (dCons (dVar 1) (dCons (dOp (dAdd false) (dVar 3) (dC (.int 1))) dNil))))
noncomputable def lc1__law_told_of : EF := dLc [7] (tgN 7) (iRange1 (dCons (dVar 2) dNil)) tYesF lc1__law_told_of_e
noncomputable def fo2__law_told_of_b : SF :=
  (sSeq (sSet 8 (dCall 4 m__law_fact (dCons (dVar 0) (dCons (dVar 1) (dCons (dVar 2) (dCons (dVar 3) dNil))))))
    (sSeq (sIf (dT (dOp (dCmp fun i j => decide (j < i)) (dCall 3 m__law_draw (dCons (dVar 0) (dCons (dVar 1) (dCons (dC (.int 5)) dNil)))) (dC (.int 0))))
    (sSet 8 (dOp (dAdd false) (dSlT (dVar 8) oNone (oSome (dC (.int 3)))) (dTup (dCons (dCall 2 m__law_worth (dCons (dVar 5) (dCons (dVar 8) dNil))) dNil))))
    sNil)
    (sExpr (dMtd mAppend (dVar 6) (dCons (dVar 8) dNil)))))
noncomputable def fo2__law_told_of : SF := (sFor (tgN 7) (iRange1 (dCons (dCall 3 m__law_draw (dCons (dVar 0) (dCons (dVar 1) (dCons (dOp (dAdd false) (dVar 4) (dC (.int 1))) dNil)))) dNil)) fo2__law_told_of_b)
noncomputable def b__law_told_of : SF :=
  (sSeq (sSet 5 lc1__law_told_of)
    (sSeq (sSet 6 (dLst true dNil))
    (sSeq fo2__law_told_of
    (sRet (dVar 6)))))
noncomputable def m__law_told_of : FnF := fnD 9 b__law_told_of
noncomputable def lc1__law_rows_e : EF := (dOp (dAdd false) (dVar 6) (dLst false (dCons (dVar 7) dNil)))
noncomputable def lc1__law_rows : EF := dLc [7] (tgN 7) (iRange1 (dCons (dOp (dAdd false) (dVar 1) (dC (.int 1))) dNil)) tYesF lc1__law_rows_e
noncomputable def fo2__law_rows_b : SF :=
  (sSet 5 (dOp (dAdd false) (dVar 5) lc1__law_rows))
noncomputable def fo2__law_rows : SF := (sFor (tgN 6) (iList (dVar 3)) fo2__law_rows_b)
noncomputable def fo3__law_rows_b : SF :=
  (sSeq (sSet 5 (dLst false dNil))
    (sSeq fo2__law_rows
    (sSet 3 (dVar 5))))
noncomputable def fo3__law_rows : SF := (sFor (tgN 4) (iRange1 (dCons (dVar 0) dNil)) fo3__law_rows_b)
noncomputable def lc4__law_rows_e : EF := (dVar 8)
noncomputable def lc4__law_rows_t : TF := (dT (dOp dNe (dCall 2 m__law_worth (dCons (dVar 6) (dCons (dVar 8) dNil))) (dOp dIx (dVar 8) (dC (.int 3)))))
noncomputable def lc4__law_rows : EF := dLc [8] (tgN 8) (iList (dVar 2)) lc4__law_rows_t lc4__law_rows_e
noncomputable def lc5__law_rows_e : EF := (dVar 6)
noncomputable def lc5__law_rows_t : TF := (dT (dOp dEq lc4__law_rows (dLst false dNil)))
noncomputable def lc5__law_rows : EF := dLc [6] (tgN 6) (iList (dVar 3)) lc5__law_rows_t lc5__law_rows_e
noncomputable def b__law_rows : SF :=
  (sSeq (sSet 3 (dLst false (dCons (dLst false dNil) dNil)))
    (sSeq fo3__law_rows
    (sRet lc5__law_rows)))
noncomputable def m__law_rows : FnF := fnD 9 b__law_rows
noncomputable def b__law_sizes : SF :=
  (sRet (dCall 3 m__law_pick (dCons (dVar 0) (dCons (dVar 1) (dCons (dLst false (dCons (dTup (dCons (dC (.int 1)) (dCons (dC (.int 9)) dNil))) (dCons (dTup (dCons (dC (.int 2)) (dCons (dC (.int 9)) dNil))) (dCons (dTup (dCons (dC (.int 3)) (dCons (dC (.int 4)) dNil))) (dCons (dTup (dCons (dC (.int 4)) (dCons (dC (.int 3)) dNil))) (dCons (dTup (dCons (dC (.int 5)) (dCons (dC (.int 2)) dNil))) (dCons (dTup (dCons (dC (.int 6)) (dCons (dC (.int 1)) dNil))) (dCons (dTup (dCons (dC (.int 8)) (dCons (dC (.int 1)) dNil))) (dCons (dTup (dCons (dC (.int 4)) (dCons (dC (.int 2)) dNil))) (dCons (dTup (dCons (dC (.int 3)) (dCons (dC (.int 5)) dNil))) (dCons (dTup (dCons (dC (.int 2)) (dCons (dC (.int 0)) dNil))) dNil))))))))))) dNil)))))
noncomputable def m__law_sizes : FnF := fnD 2 b__law_sizes
noncomputable def lc1_look_windows_e : EF := (dChain (dCmp fun i j => decide (i ≤ j)) (dCmp fun i j => decide (i ≤ j)) (dC (.int 0)) (dVar 2) (dC (.int 9)))
noncomputable def lc1_look_windows : EF := dLc [2] (tgN 2) (iList (dVar 1)) tYesF lc1_look_windows_e
noncomputable def b_look_windows : SF :=
  (sSeq (sIf (dOr (dNot (dT (dChain (dCmp fun i j => decide (i ≤ j)) (dCmp fun i j => decide (i ≤ j)) (dC (.int 1)) (dVar 0) (dC (.int 8))))) (dNot (dT (dChain (dCmp fun i j => decide (i ≤ j)) (dCmp fun i j => decide (i ≤ j)) (dC (.int 1)) (dCB gLen (dCons (dVar 1) dNil)) (dOp (dAdd false) (dOp (dInt0 fun i j => i - j) (dC (.int 8)) (dVar 0)) (dC (.int 1)))))))
    (sRaise 2)
    sNil)
    (sIf (dNot (dTru (dCB gAllB (dCons lc1_look_windows dNil))))
    (sRaise 2)
    sNil))
noncomputable def m_look_windows : FnF := fnD 3 b_look_windows
noncomputable def lc1_over_e : EF := (dOp dIx (dVar 1) (dVar 3))
noncomputable def lc1_over_t : TF := (dT (dChain (dCmp fun i j => decide (i ≤ j)) (dCmp fun i j => decide (i < j)) (dVar 3) (dVar 2) (dOp (dAdd false) (dVar 3) (dVar 0))))
noncomputable def lc1_over : EF := dLc [3] (tgN 3) (iRange1 (dCons (dCB gLen (dCons (dVar 1) dNil)) dNil)) lc1_over_t lc1_over_e
noncomputable def b_over : SF :=
  (sRet lc1_over)
noncomputable def m_over : FnF := fnD 4 b_over
noncomputable def lc1_highest_e : EF := (dCB gMin (dCons (dCall 3 m_over (dCons (dVar 0) (dCons (dVar 1) (dCons (dVar 2) dNil)))) dNil))
noncomputable def lc1_highest : EF := dLc [2] (tgN 2) (iRange1 (dCons (dOp (dInt0 fun i j => i - j) (dOp (dAdd false) (dCB gLen (dCons (dVar 1) dNil)) (dVar 0)) (dC (.int 1))) dNil)) tYesF lc1_highest_e
noncomputable def b_highest : SF :=
  (sRet lc1_highest)
noncomputable def m_highest : FnF := fnD 3 b_highest
noncomputable def lc1_lowest_e : EF := (dCB gMax (dCons (dCall 3 m_over (dCons (dVar 0) (dCons (dVar 1) (dCons (dVar 2) dNil)))) dNil))
noncomputable def lc1_lowest : EF := dLc [2] (tgN 2) (iRange1 (dCons (dOp (dInt0 fun i j => i - j) (dOp (dAdd false) (dCB gLen (dCons (dVar 1) dNil)) (dVar 0)) (dC (.int 1))) dNil)) tYesF lc1_lowest_e
noncomputable def b_lowest : SF :=
  (sRet lc1_lowest)
noncomputable def m_lowest : FnF := fnD 3 b_lowest
noncomputable def b_can_be_greatest : SF :=
  (sSeq (sExpr (dCall 2 m_look_windows (dCons (dVar 0) (dCons (dVar 1) dNil))))
    (sRet (dOp dEq (dCall 2 m_greatest_by (dCons (dCall 2 m_highest (dCons (dVar 0) (dCons (dVar 1) dNil))) (dCons (dVar 0) dNil))) (dCB (gList false) (dCons (dVar 1) dNil)))))
noncomputable def m_can_be_greatest : FnF := fnD 2 b_can_be_greatest
noncomputable def b_can_be_least : SF :=
  (sSeq (sExpr (dCall 2 m_look_windows (dCons (dVar 0) (dCons (dVar 1) dNil))))
    (sRet (dOp dEq (dCall 2 m_least_by (dCons (dCall 2 m_lowest (dCons (dVar 0) (dCons (dVar 1) dNil))) (dCons (dVar 0) dNil))) (dCB (gList false) (dCons (dVar 1) dNil)))))
noncomputable def m_can_be_least : FnF := fnD 2 b_can_be_least
noncomputable def b_row_of_greatest : SF :=
  (sSeq (sIf (dNot (dTru (dCall 2 m_can_be_greatest (dCons (dVar 0) (dCons (dVar 1) dNil)))))
    (sRaise 4)
    sNil)
    (sRet (dCall 2 m_highest (dCons (dVar 0) (dCons (dVar 1) dNil)))))
noncomputable def m_row_of_greatest : FnF := fnD 2 b_row_of_greatest
noncomputable def b_row_of_least : SF :=
  (sSeq (sIf (dNot (dTru (dCall 2 m_can_be_least (dCons (dVar 0) (dCons (dVar 1) dNil)))))
    (sRaise 4)
    sNil)
    (sRet (dCall 2 m_lowest (dCons (dVar 0) (dCons (dVar 1) dNil)))))
noncomputable def m_row_of_least : FnF := fnD 2 b_row_of_least
noncomputable def b_number_in : SF :=
  (sSeq (sIf (dT (dOp (dIn true) (dVar 0) (dC (.str "0123456789"))))
    (sRaise 6)
    sNil)
    (sRet (dCB gInt (dCons (dVar 0) dNil))))
noncomputable def m_number_in : FnF := fnD 1 b_number_in
end PG

set_option maxRecDepth 100000
set_option maxHeartbeats 4000000
namespace K91
open PySem PySem.Spec PyProof.Rows L2 WB PG
noncomputable def b_how_many : SF :=
  (sSeq (sExpr (dCall 3 m_look_told (dCons (dVar 0) (dCons (dVar 1) (dCons (dVar 2) dNil)))))
    sBad)
noncomputable def m_how_many : FnF := fnD 3 b_how_many
noncomputable def b_row_at : SF :=
  (sSeq (sExpr (dCall 3 m_look_told (dCons (dVar 0) (dCons (dVar 1) (dCons (dVar 2) dNil)))))
    sBad)
noncomputable def m_row_at : FnF := fnD 5 b_row_at
noncomputable def b_number_of : SF :=
  (sSeq (sExpr (dCall 3 m_look_told (dCons (dVar 0) (dCons (dVar 1) (dCons (dVar 2) dNil)))))
    (sSeq (sExpr (dCall 1 m_look_row (dCons (dVar 3) dNil)))
    sBad))
noncomputable def m_number_of : FnF := fnD 11 b_number_of
noncomputable def b_may : SF :=
  (sSeq (sExpr (dCall 3 m_look_told (dCons (dVar 0) (dCons (dVar 1) (dCons (dVar 2) dNil)))))
    (sSeq (sIf (dNot (dT (dChain (dCmp fun i j => decide (i ≤ j)) (dCmp fun i j => decide (i < j)) (dC (.int 0)) (dVar 3) (dVar 0))))
    (sRaise 1)
    sNil)
    sBad))
noncomputable def m_may : FnF := fnD 6 b_may
noncomputable def b_sure : SF :=
  (sSeq (sExpr (dCall 3 m_look_told (dCons (dVar 0) (dCons (dVar 1) (dCons (dVar 2) dNil)))))
    sBad)
noncomputable def m_sure : FnF := fnD 7 b_sure
noncomputable def b_clash : SF :=
  (sSeq (sExpr (dCall 3 m_look_told (dCons (dVar 0) (dCons (dVar 1) (dCons (dVar 2) dNil)))))
    sBad)
noncomputable def m_clash : FnF := fnD 6 b_clash
noncomputable def b_is_clash : SF :=
  (sSeq (sExpr (dCall 3 m_look_told (dCons (dVar 0) (dCons (dVar 1) (dCons (dVar 2) dNil)))))
    sBad)
noncomputable def m_is_clash : FnF := fnD 6 b_is_clash
noncomputable def b_left_out : SF :=
  (sSeq (sExpr (dCall 3 m_look_told (dCons (dVar 0) (dCons (dVar 1) (dCons (dVar 2) dNil)))))
    sBad)
noncomputable def m_left_out : FnF := fnD 6 b_left_out
noncomputable def b_least_cost : SF :=
  (sSeq (sExpr (dCall 3 m_look_told (dCons (dVar 0) (dCons (dVar 1) (dCons (dVar 2) dNil)))))
    sBad)
noncomputable def m_least_cost : FnF := fnD 3 b_least_cost
noncomputable def b_mended : SF :=
  (sSeq (sExpr (dCall 3 m_look_told (dCons (dVar 0) (dCons (dVar 1) (dCons (dVar 2) dNil)))))
    sBad)
noncomputable def m_mended : FnF := fnD 9 b_mended
noncomputable def b_first_row : SF :=
  (sSeq (sExpr (dCall 3 m_look_told (dCons (dVar 0) (dCons (dVar 1) (dCons (dVar 2) dNil)))))
    sBad)
noncomputable def m_first_row : FnF := fnD 4 b_first_row
noncomputable def b_worths : SF :=
  (sSeq (sExpr (dCall 4 m_look_fact (dCons (dVar 0) (dCons (dVar 1) (dCons (dVar 2) (dCons (dTup (dCons (dVar 3) (dCons (dVar 4) (dCons (dVar 5) (dCons (dC (.int 0)) dNil))))) dNil))))))
    sBad)
noncomputable def m_worths : FnF := fnD 6 b_worths
noncomputable def b_follows : SF :=
  (sSeq (sExpr (dCall 4 m_look_fact (dCons (dVar 0) (dCons (dVar 1) (dCons (dVar 2) (dCons (dVar 3) dNil))))))
    sBad)
noncomputable def m_follows : FnF := fnD 4 b_follows
noncomputable def b_parting : SF :=
  (sSeq (sExpr (dCall 4 m_look_fact (dCons (dVar 0) (dCons (dVar 1) (dCons (dVar 2) (dCons (dVar 3) dNil))))))
    sBad)
noncomputable def m_parting : FnF := fnD 7 b_parting
noncomputable def b_needless : SF :=
  (sSeq (sExpr (dCall 3 m_look_told (dCons (dVar 0) (dCons (dVar 1) (dCons (dVar 2) dNil)))))
    sBad)
noncomputable def m_needless : FnF := fnD 4 b_needless
noncomputable def b_lessened : SF :=
  (sSeq (sExpr (dCall 3 m_look_told (dCons (dVar 0) (dCons (dVar 1) (dCons (dVar 2) dNil)))))
    sBad)
noncomputable def m_lessened : FnF := fnD 5 b_lessened
noncomputable def b_are_alike : SF :=
  (sSeq (sExpr (dCall 3 m_look_told (dCons (dVar 0) (dCons (dVar 1) (dCons (dVar 2) dNil)))))
    (sSeq (sExpr (dCall 3 m_look_told (dCons (dVar 0) (dCons (dVar 1) (dCons (dVar 3) dNil)))))
    sBad))
noncomputable def m_are_alike : FnF := fnD 5 b_are_alike
noncomputable def b_first_apart : SF :=
  (sSeq (sExpr (dCall 3 m_look_told (dCons (dVar 0) (dCons (dVar 1) (dCons (dVar 2) dNil)))))
    (sSeq (sExpr (dCall 3 m_look_told (dCons (dVar 0) (dCons (dVar 1) (dCons (dVar 3) dNil)))))
    sBad))
noncomputable def m_first_apart : FnF := fnD 7 b_first_apart
noncomputable def b_written : SF :=
  (sSeq (sExpr (dCall 3 m_look_told (dCons (dVar 0) (dCons (dVar 1) (dCons (dVar 2) dNil)))))
    sBad)
noncomputable def m_written : FnF := fnD 8 b_written
noncomputable def b__law_one_b : SF :=
  (sSeq (sSet 2 (dOp dIx (dVar 1) (dC (.int 0))))
    (sSeq (sSet 3 (dOp dIx (dVar 1) (dC (.int 1))))
    (sSeq (sSet 4 (dOp dIx (dVar 1) (dC (.int 2))))
    (sSeq (sSet 5 (dOp dIx (dVar 1) (dC (.int 4))))
    (sSeq (sSet 6 (dOp dIx (dVar 1) (dC (.int 5))))
    (sSeq (sIf (dT (dOp dEq (dVar 0) (dC (.int 13))))
    (sRet (dCall 6 m_worths (dCons (dVar 2) (dCons (dVar 3) (dCons (dVar 4) (dCons (dC (.str "least")) (dCons (dVar 6) (dCons (dVar 6) dNil))))))))
    sNil)
    (sSeq (sIf (dT (dOp dEq (dVar 0) (dC (.int 14))))
    (sRet (dCall 3 m_needless (dCons (dVar 2) (dCons (dVar 3) (dCons (dVar 4) dNil)))))
    sNil)
    (sSeq (sIf (dT (dOp dEq (dVar 0) (dC (.int 15))))
    (sRet (dCall 3 m_lessened (dCons (dVar 2) (dCons (dVar 3) (dCons (dVar 4) dNil)))))
    sNil)
    (sSeq (sIf (dT (dOp dEq (dVar 0) (dC (.int 16))))
    (sRet (dCall 4 m_follows (dCons (dVar 2) (dCons (dVar 3) (dCons (dVar 4) (dCons (dVar 5) dNil))))))
    sNil)
    (sSeq (sIf (dT (dOp dEq (dVar 0) (dC (.int 17))))
    (sRet (dCall 4 m_are_alike (dCons (dVar 2) (dCons (dVar 3) (dCons (dVar 4) (dCons (dLst false (dCons (dVar 5) dNil)) dNil))))))
    sNil)
    (sSeq (sIf (dT (dOp dEq (dVar 0) (dC (.int 18))))
    (sRet (dCall 4 m_parting (dCons (dVar 2) (dCons (dVar 3) (dCons (dVar 4) (dCons (dVar 5) dNil))))))
    sNil)
    (sSeq (sIf (dT (dOp dEq (dVar 0) (dC (.int 19))))
    (sRet (dCall 4 m_first_apart (dCons (dVar 2) (dCons (dVar 3) (dCons (dVar 4) (dCons (dLst false (dCons (dVar 5) dNil)) dNil))))))
    sNil)
    (sSeq (sIf (dT (dOp dEq (dVar 0) (dC (.int 20))))
    (sRet (dCall 3 m_written (dCons (dVar 2) (dCons (dVar 3) (dCons (dVar 4) dNil)))))
    sNil)
    (sRet (dC .none)))))))))))))))
noncomputable def m__law_one_b : FnF := fnD 7 b__law_one_b
noncomputable def b__law_one : SF :=
  (sSeq (sSet 2 (dOp dIx (dVar 1) (dC (.int 0))))
    (sSeq (sSet 3 (dOp dIx (dVar 1) (dC (.int 1))))
    (sSeq (sSet 4 (dOp dIx (dVar 1) (dC (.int 2))))
    (sSeq (sSet 5 (dOp dIx (dVar 1) (dC (.int 3))))
    (sSeq (sSet 6 (dOp dIx (dVar 1) (dC (.int 5))))
    (sSeq (sIf (dT (dOp dEq (dVar 0) (dC (.int 0))))
    (sRet (dCall 4 m_broken (dCons (dVar 2) (dCons (dVar 3) (dCons (dVar 4) (dCons (dVar 5) dNil))))))
    sNil)
    (sSeq (sIf (dT (dOp dEq (dVar 0) (dC (.int 1))))
    (sRet (dCall 3 m_bounds (dCons (dVar 2) (dCons (dVar 3) (dCons (dVar 4) dNil)))))
    sNil)
    (sSeq (sIf (dT (dOp dEq (dVar 0) (dC (.int 2))))
    (sRet (dCall 3 m_how_many (dCons (dVar 2) (dCons (dVar 3) (dCons (dVar 4) dNil)))))
    sNil)
    (sSeq (sIf (dT (dOp dEq (dVar 0) (dC (.int 3))))
    (sRet (dCall 4 m_number_of (dCons (dVar 2) (dCons (dVar 3) (dCons (dVar 4) (dCons (dVar 5) dNil))))))
    sNil)
    (sSeq (sIf (dT (dOp dEq (dVar 0) (dC (.int 4))))
    (sRet (dCall 4 m_row_at (dCons (dVar 2) (dCons (dVar 3) (dCons (dVar 4) (dCons (dVar 6) dNil))))))
    sNil)
    (sSeq (sIf (dT (dOp dEq (dVar 0) (dC (.int 5))))
    (sRet (dCall 4 m_may (dCons (dVar 2) (dCons (dVar 3) (dCons (dVar 4) (dCons (dVar 6) dNil))))))
    sNil)
    (sSeq (sIf (dT (dOp dEq (dVar 0) (dC (.int 6))))
    (sRet (dCall 3 m_sure (dCons (dVar 2) (dCons (dVar 3) (dCons (dVar 4) dNil)))))
    sNil)
    (sSeq (sIf (dT (dOp dEq (dVar 0) (dC (.int 7))))
    (sRet (dCall 3 m_clash (dCons (dVar 2) (dCons (dVar 3) (dCons (dVar 4) dNil)))))
    sNil)
    (sSeq (sIf (dT (dOp dEq (dVar 0) (dC (.int 8))))
    (sRet (dCall 4 m_is_clash (dCons (dVar 2) (dCons (dVar 3) (dCons (dVar 4) (dCons (dLst false (dCons (dC (.int 0)) dNil)) dNil))))))
    sNil)
    (sSeq (sIf (dT (dOp dEq (dVar 0) (dC (.int 9))))
    (sRet (dCall 3 m_left_out (dCons (dVar 2) (dCons (dVar 3) (dCons (dVar 4) dNil)))))
    sNil)
    (sSeq (sIf (dT (dOp dEq (dVar 0) (dC (.int 10))))
    (sRet (dCall 3 m_first_row (dCons (dVar 2) (dCons (dVar 3) (dCons (dVar 4) dNil)))))
    sNil)
    (sSeq (sIf (dT (dOp dEq (dVar 0) (dC (.int 11))))
    (sRet (dCall 3 m_mended (dCons (dVar 2) (dCons (dVar 3) (dCons (dVar 4) dNil)))))
    sNil)
    (sSeq (sIf (dT (dOp dEq (dVar 0) (dC (.int 12))))
    (sRet (dCall 3 m_least_cost (dCons (dVar 2) (dCons (dVar 3) (dCons (dVar 4) dNil)))))
    sNil)
    (sRet (dCall 2 m__law_one_b (dCons (dVar 0) (dCons (dVar 1) dNil))))))))))))))))))))))
noncomputable def m__law_one : FnF := fnD 7 b__law_one
noncomputable def ie1__law_told : EF := dIf (dT (dOp dIsN (dVar 2) (dC .none))) (dTup (dCons (dC (.str "found")) (dCons (dVar 3) dNil))) (dCall 1 m__law_refusal (dCons (dVar 2) dNil))
noncomputable def b__law_told : SF :=
  (sSeq (sSet 2 (dC .none))
    (sSeq (sSet 3 (dC .none))
    (sSeq (sTry 4 2
    (sSet 3 (dCall 2 m__law_one (dCons (dVar 0) (dCons (dVar 1) dNil)))))
    (sRet ie1__law_told))))
noncomputable def m__law_told : FnF := fnD 5 b__law_told
noncomputable def fo1_law_b : SF :=
  (sSeq (sIf (dT (dOp dNe (dCall 2 m__law_told (dCons (dVar 10) (dCons (dLst false (dCons (dOp dIx (dVar 4) (dC (.int 0))) (dCons (dOp dIx (dVar 4) (dC (.int 1))) (dCons (dVar 7) (dCons (dVar 8) (dCons (dVar 5) (dCons (dVar 9) dNil))))))) dNil))) (dTup (dCons (dC (.str "refused")) (dCons (dC (.str "size")) dNil)))))
    (sRet (dC (.bool false)))
    sNil)
    (sIf (dT (dOp dNe (dCall 2 m__law_told (dCons (dVar 10) (dCons (dLst false (dCons (dVar 2) (dCons (dVar 3) (dCons (dVar 7) (dCons (dVar 8) (dCons (dVar 5) (dCons (dVar 9) dNil))))))) dNil))) (dTup (dCons (dC (.str "refused")) (dCons (dC (.str "told")) dNil)))))
    (sRet (dC (.bool false)))
    sNil))
noncomputable def fo1_law : SF := (sFor (tgN 10) (iRange1 (dCons (dC (.int 21)) dNil)) fo1_law_b)
noncomputable def lc2_law_e : EF := (dCall 2 m__law_told (dCons (dVar 10) (dCons (dVar 11) dNil)))
noncomputable def lc2_law : EF := dLc [10] (tgN 10) (iTup (dTup (dCons (dC (.int 0)) (dCons (dC (.int 3)) dNil)))) tYesF lc2_law_e
noncomputable def lc3_law_e : EF := (dCall 2 m__law_told (dCons (dVar 10) (dCons (dVar 11) dNil)))
noncomputable def lc3_law : EF := dLc [10] (tgN 10) (iTup (dTup (dCons (dC (.int 16)) (dCons (dC (.int 17)) (dCons (dC (.int 18)) (dCons (dC (.int 19)) dNil)))))) tYesF lc3_law_e
noncomputable def b_law : SF :=
  (sSeq (sSet 1 (dLst true dNil))
    (sSeq (sSet 2 (dOp (dAdd false) (dC (.int 1)) (dCall 3 m__law_draw (dCons (dVar 0) (dCons (dVar 1) (dCons (dC (.int 8)) dNil))))))
    (sSeq (sSet 3 (dCall 3 m__law_draw (dCons (dVar 0) (dCons (dVar 1) (dCons (dC (.int 10)) dNil)))))
    (sSeq (sSet 4 (dCall 3 m__law_pick (dCons (dVar 0) (dCons (dVar 1) (dCons (dLst false (dCons (dTup (dCons (dC (.int 0)) (dCons (dVar 3) dNil))) (dCons (dTup (dCons (dC (.int 9)) (dCons (dVar 3) dNil))) (dCons (dTup (dCons (dVar 2) (dCons (dNeg (dC (.int 1))) dNil))) (dCons (dTup (dCons (dVar 2) (dCons (dC (.int 10)) dNil))) (dCons (dTup (dCons (dNeg (dC (.int 1))) (dCons (dC (.int 10)) dNil))) dNil)))))) dNil)))))
    (sSeq (sSet 5 (dCall 3 m__law_pick (dCons (dVar 0) (dCons (dVar 1) (dCons (dLst false (dCons (dTup (dCons (dC (.str "greatest")) (dCons (dC (.int 0)) (dCons (dVar 2) (dCons (dC (.int 0)) dNil))))) (dCons (dTup (dCons (dC (.str "least")) (dCons (dNeg (dC (.int 1))) (dCons (dC (.int 0)) (dCons (dC (.int 0)) dNil))))) (dCons (dTup (dCons (dC (.str "most")) (dCons (dC (.int 0)) (dCons (dC (.int 0)) (dCons (dC (.int 0)) dNil))))) dNil)))) dNil)))))
    (sSeq (sSet 5 (dCall 3 m__law_pick (dCons (dVar 0) (dCons (dVar 1) (dCons (dLst false (dCons (dVar 5) (dCons (dTup (dCons (dC (.str "least")) (dCons (dC (.int 0)) (dCons (dC (.int 0)) (dCons (dOp (dAdd false) (dVar 3) (dC (.int 1))) dNil))))) (dCons (dTup (dCons (dC (.str "least")) (dCons (dC (.int 0)) (dCons (dC (.int 0)) (dCons (dNeg (dC (.int 1))) dNil))))) dNil)))) dNil)))))
    (sSeq (sSet 6 (dTup (dCons (dC (.str "least")) (dCons (dC (.int 0)) (dCons (dOp (dInt0 fun i j => i - j) (dVar 2) (dC (.int 1))) (dCons (dC (.int 0)) dNil))))))
    (sSeq (sSet 7 (dCall 3 m__law_pick (dCons (dVar 0) (dCons (dVar 1) (dCons (dLst false (dCons (dLst false (dCons (dVar 5) dNil)) (dCons (dLst false (dCons (dVar 6) (dCons (dVar 5) dNil))) (dCons (dLst false (dCons (dVar 5) (dCons (dVar 6) dNil))) (dCons (dOp (dMul false) (dLst false (dCons (dVar 6) dNil)) (dC (.int 7))) dNil))))) dNil)))))
    (sSeq (sSet 8 (dCall 3 m__law_pick (dCons (dVar 0) (dCons (dVar 1) (dCons (dLst false (dCons (dLst false dNil) (dCons (dLst false (dCons (dC (.int 10)) dNil)) (dCons (dLst false (dCons (dNeg (dC (.int 1))) dNil)) (dCons (dOp (dMul false) (dLst false (dCons (dC (.int 0)) dNil)) (dC (.int 9))) dNil))))) dNil)))))
    (sSeq (sSet 9 (dCall 3 m__law_pick (dCons (dVar 0) (dCons (dVar 1) (dCons (dLst false (dCons (dNeg (dC (.int 1))) (dCons (dC (.int 9)) dNil))) dNil)))))
    (sSeq fo1_law
    (sSeq (sSet 11 (dLst false (dCons (dVar 2) (dCons (dVar 3) (dCons (dLst false (dCons (dVar 6) dNil)) (dCons (dVar 8) (dCons (dVar 5) (dCons (dVar 9) dNil))))))))
    (sSeq (sIf (dT (dOp dNe lc2_law (dOp (dMul false) (dLst false (dCons (dTup (dCons (dC (.str "refused")) (dCons (dC (.str "row")) dNil))) dNil)) (dC (.int 2)))))
    (sRet (dC (.bool false)))
    sNil)
    (sSeq (sIf (dT (dOp dNe lc3_law (dOp (dMul false) (dLst false (dCons (dTup (dCons (dC (.str "refused")) (dCons (dC (.str "told")) dNil))) dNil)) (dC (.int 4)))))
    (sRet (dC (.bool false)))
    sNil)
    (sRet (dOp dEq (dCall 2 m__law_told (dCons (dC (.int 5)) (dCons (dVar 11) dNil))) (dTup (dCons (dC (.str "refused")) (dCons (dC (.str "stretch")) dNil)))))))))))))))))))
noncomputable def m_law : FnF := fnD 12 b_law
end K91

set_option maxRecDepth 100000
set_option maxHeartbeats 4000000
namespace K91
open PySem PySem.Spec PyProof.Rows L2 WB PG
def topS (i : Nat) : Stmt := PySem.Challenge.pw_windowback_k91_whole_two_at_once.main.body.getD i (.Pass ⟨0, 0, 0, 0⟩)
abbrev s_look_sizes : Stmt := topS 12
abbrev N_look_sizes : List Str := ["size", "most"]
theorem sc_look_sizes : FnScope N_look_sizes ["size", "most"] (defScope s_look_sizes) := ⟨rfl, rfl, rfl, by decide +kernel, rfl, by decide +kernel, by decide +kernel⟩
abbrev s_look_row : Stmt := topS 13
abbrev N_look_row : List Str := ["row", "worth"]
theorem sc_look_row : FnScope N_look_row ["row"] (defScope s_look_row) := ⟨rfl, rfl, rfl, by decide +kernel, rfl, by decide +kernel, by decide +kernel⟩
abbrev s_is_fact : Stmt := topS 17
abbrev N_is_fact : List Str := ["size", "most", "fact"]
theorem sc_is_fact : FnScope N_is_fact ["size", "most", "fact"] (defScope s_is_fact) := ⟨rfl, rfl, rfl, by decide +kernel, rfl, by decide +kernel, by decide +kernel⟩
abbrev s_look_told : Stmt := topS 18
abbrev N_look_told : List Str := ["size", "most", "told", "fact"]
theorem sc_look_told : FnScope N_look_told ["size", "most", "told"] (defScope s_look_told) := ⟨rfl, rfl, rfl, by decide +kernel, rfl, by decide +kernel, by decide +kernel⟩
abbrev s_worth_of : Stmt := topS 19
abbrev N_worth_of : List Str := ["row", "fact", "some"]
theorem sc_worth_of : FnScope N_worth_of ["row", "fact"] (defScope s_worth_of) := ⟨rfl, rfl, rfl, by decide +kernel, rfl, by decide +kernel, by decide +kernel⟩
abbrev s_is_row_of : Stmt := topS 21
abbrev N_is_row_of : List Str := ["size", "most", "row", "worth"]
theorem sc_is_row_of : FnScope N_is_row_of ["size", "most", "row"] (defScope s_is_row_of) := ⟨rfl, rfl, rfl, by decide +kernel, rfl, by decide +kernel, by decide +kernel⟩
abbrev s_broken : Stmt := topS 22
abbrev N_broken : List Str := ["size", "most", "told", "row", "k"]
theorem sc_broken : FnScope N_broken ["size", "most", "told", "row"] (defScope s_broken) := ⟨rfl, rfl, rfl, by decide +kernel, rfl, by decide +kernel, by decide +kernel⟩
abbrev s_bounds : Stmt := topS 23
abbrev N_bounds : List Str := ["size", "most", "told", "found", "place", "here", "low", "high", "fact"]
theorem sc_bounds : FnScope N_bounds ["size", "most", "told"] (defScope s_bounds) := ⟨rfl, rfl, rfl, by decide +kernel, rfl, by decide +kernel, by decide +kernel⟩
abbrev s_how_many : Stmt := topS 27
abbrev N_how_many : List Str := ["size", "most", "told"]
theorem sc_how_many : FnScope N_how_many ["size", "most", "told"] (defScope s_how_many) := ⟨rfl, rfl, rfl, by decide +kernel, rfl, by decide +kernel, by decide +kernel⟩
abbrev s_row_at : Stmt := topS 28
abbrev N_row_at : List Str := ["size", "most", "told", "number", "counter"]
theorem sc_row_at : FnScope N_row_at ["size", "most", "told", "number"] (defScope s_row_at) := ⟨rfl, rfl, rfl, by decide +kernel, rfl, by decide +kernel, by decide +kernel⟩
abbrev s_number_of : Stmt := topS 30
abbrev N_number_of : List Str := ["size", "most", "told", "row", "counter", "found", "held", "place", "less", "worth", "one"]
theorem sc_number_of : FnScope N_number_of ["size", "most", "told", "row"] (defScope s_number_of) := ⟨rfl, rfl, rfl, by decide +kernel, rfl, by decide +kernel, by decide +kernel⟩
abbrev s_may : Stmt := topS 31
abbrev N_may : List Str := ["size", "most", "told", "place", "found", "worth"]
theorem sc_may : FnScope N_may ["size", "most", "told", "place"] (defScope s_may) := ⟨rfl, rfl, rfl, by decide +kernel, rfl, by decide +kernel, by decide +kernel⟩
abbrev s_sure : Stmt := topS 32
abbrev N_sure : List Str := ["size", "most", "told", "found", "place", "some", "worth"]
theorem sc_sure : FnScope N_sure ["size", "most", "told"] (defScope s_sure) := ⟨rfl, rfl, rfl, by decide +kernel, rfl, by decide +kernel, by decide +kernel⟩
abbrev s_clash : Stmt := topS 36
abbrev N_clash : List Str := ["size", "most", "told", "count", "some", "k"]
theorem sc_clash : FnScope N_clash ["size", "most", "told"] (defScope s_clash) := ⟨rfl, rfl, rfl, by decide +kernel, rfl, by decide +kernel, by decide +kernel⟩
abbrev s_is_clash : Stmt := topS 37
abbrev N_is_clash : List Str := ["size", "most", "told", "some", "k", "j"]
theorem sc_is_clash : FnScope N_is_clash ["size", "most", "told", "some"] (defScope s_is_clash) := ⟨rfl, rfl, rfl, by decide +kernel, rfl, by decide +kernel, by decide +kernel⟩
abbrev s_left_out : Stmt := topS 38
abbrev N_left_out : List Str := ["size", "most", "told", "count", "some", "k"]
theorem sc_left_out : FnScope N_left_out ["size", "most", "told"] (defScope s_left_out) := ⟨rfl, rfl, rfl, by decide +kernel, rfl, by decide +kernel, by decide +kernel⟩
abbrev s_least_cost : Stmt := topS 40
abbrev N_least_cost : List Str := ["size", "most", "told"]
theorem sc_least_cost : FnScope N_least_cost ["size", "most", "told"] (defScope s_least_cost) := ⟨rfl, rfl, rfl, by decide +kernel, rfl, by decide +kernel, by decide +kernel⟩
abbrev s_mended : Stmt := topS 41
abbrev N_mended : List Str := ["size", "most", "told", "mender", "row", "so_far", "place", "costs", "worth"]
theorem sc_mended : FnScope N_mended ["size", "most", "told"] (defScope s_mended) := ⟨rfl, rfl, rfl, by decide +kernel, rfl, by decide +kernel, by decide +kernel⟩
abbrev s_first_row : Stmt := topS 42
abbrev N_first_row : List Str := ["size", "most", "told", "counter"]
theorem sc_first_row : FnScope N_first_row ["size", "most", "told"] (defScope s_first_row) := ⟨rfl, rfl, rfl, by decide +kernel, rfl, by decide +kernel, by decide +kernel⟩
abbrev s_look_fact : Stmt := topS 44
abbrev N_look_fact : List Str := ["size", "most", "told", "fact"]
theorem sc_look_fact : FnScope N_look_fact ["size", "most", "told", "fact"] (defScope s_look_fact) := ⟨rfl, rfl, rfl, by decide +kernel, rfl, by decide +kernel, by decide +kernel⟩
abbrev s_worths : Stmt := topS 45
abbrev N_worths : List Str := ["size", "most", "told", "word", "first", "last"]
theorem sc_worths : FnScope N_worths ["size", "most", "told", "word", "first", "last"] (defScope s_worths) := ⟨rfl, rfl, rfl, by decide +kernel, rfl, by decide +kernel, by decide +kernel⟩
abbrev s_follows : Stmt := topS 47
abbrev N_follows : List Str := ["size", "most", "told", "fact"]
theorem sc_follows : FnScope N_follows ["size", "most", "told", "fact"] (defScope s_follows) := ⟨rfl, rfl, rfl, by decide +kernel, rfl, by decide +kernel, by decide +kernel⟩
abbrev s_parting : Stmt := topS 49
abbrev N_parting : List Str := ["size", "most", "told", "fact", "rows", "worth", "counter"]
theorem sc_parting : FnScope N_parting ["size", "most", "told", "fact"] (defScope s_parting) := ⟨rfl, rfl, rfl, by decide +kernel, rfl, by decide +kernel, by decide +kernel⟩
abbrev s_needless : Stmt := topS 50
abbrev N_needless : List Str := ["size", "most", "told", "k"]
theorem sc_needless : FnScope N_needless ["size", "most", "told"] (defScope s_needless) := ⟨rfl, rfl, rfl, by decide +kernel, rfl, by decide +kernel, by decide +kernel⟩
abbrev s_lessened : Stmt := topS 51
abbrev N_lessened : List Str := ["size", "most", "told", "left", "k"]
theorem sc_lessened : FnScope N_lessened ["size", "most", "told"] (defScope s_lessened) := ⟨rfl, rfl, rfl, by decide +kernel, rfl, by decide +kernel, by decide +kernel⟩
abbrev s_are_alike : Stmt := topS 52
abbrev N_are_alike : List Str := ["size", "most", "one", "other", "fact"]
theorem sc_are_alike : FnScope N_are_alike ["size", "most", "one", "other"] (defScope s_are_alike) := ⟨rfl, rfl, rfl, by decide +kernel, rfl, by decide +kernel, by decide +kernel⟩
abbrev s_first_apart : Stmt := topS 53
abbrev N_first_apart : List Str := ["size", "most", "one", "other", "both", "rows", "found"]
theorem sc_first_apart : FnScope N_first_apart ["size", "most", "one", "other"] (defScope s_first_apart) := ⟨rfl, rfl, rfl, by decide +kernel, rfl, by decide +kernel, by decide +kernel⟩
abbrev s_written : Stmt := topS 56
abbrev N_written : List Str := ["size", "most", "told", "words", "word", "first", "last", "worth"]
theorem sc_written : FnScope N_written ["size", "most", "told"] (defScope s_written) := ⟨rfl, rfl, rfl, by decide +kernel, rfl, by decide +kernel, by decide +kernel⟩
abbrev s__law_cell : Stmt := topS 58
abbrev N__law_cell : List Str := ["script", "k"]
theorem sc__law_cell : FnScope N__law_cell ["script", "k"] (defScope s__law_cell) := ⟨rfl, rfl, rfl, by decide +kernel, rfl, by decide +kernel, by decide +kernel⟩
abbrev s__law_mix : Stmt := topS 59
abbrev N__law_mix : List Str := ["script", "k", "number"]
theorem sc__law_mix : FnScope N__law_mix ["script", "k"] (defScope s__law_mix) := ⟨rfl, rfl, rfl, by decide +kernel, rfl, by decide +kernel, by decide +kernel⟩
abbrev s__law_draw : Stmt := topS 60
abbrev N__law_draw : List Str := ["script", "town", "many"]
theorem sc__law_draw : FnScope N__law_draw ["script", "town", "many"] (defScope s__law_draw) := ⟨rfl, rfl, rfl, by decide +kernel, rfl, by decide +kernel, by decide +kernel⟩
abbrev s__law_pick : Stmt := topS 61
abbrev N__law_pick : List Str := ["script", "town", "some"]
theorem sc__law_pick : FnScope N__law_pick ["script", "town", "some"] (defScope s__law_pick) := ⟨rfl, rfl, rfl, by decide +kernel, rfl, by decide +kernel, by decide +kernel⟩
abbrev s__law_refusal : Stmt := topS 62
abbrev N__law_refusal : List Str := ["caught", "kinds", "words"]
theorem sc__law_refusal : FnScope N__law_refusal ["caught"] (defScope s__law_refusal) := ⟨rfl, rfl, rfl, by decide +kernel, rfl, by decide +kernel, by decide +kernel⟩
abbrev s__law_one_b : Stmt := topS 63
abbrev N__law_one_b : List Str := ["kind", "some", "size", "most", "told", "fact", "number"]
theorem sc__law_one_b : FnScope N__law_one_b ["kind", "some"] (defScope s__law_one_b) := ⟨rfl, rfl, rfl, by decide +kernel, rfl, by decide +kernel, by decide +kernel⟩
abbrev s__law_one : Stmt := topS 64
abbrev N__law_one : List Str := ["kind", "some", "size", "most", "told", "row", "number"]
theorem sc__law_one : FnScope N__law_one ["kind", "some"] (defScope s__law_one) := ⟨rfl, rfl, rfl, by decide +kernel, rfl, by decide +kernel, by decide +kernel⟩
abbrev s__law_told : Stmt := topS 65
abbrev N__law_told : List Str := ["kind", "some", "caught", "found", "e"]
theorem sc__law_told : FnScope N__law_told ["kind", "some"] (defScope s__law_told) := ⟨rfl, rfl, rfl, by decide +kernel, rfl, by decide +kernel, by decide +kernel⟩
abbrev s_law : Stmt := topS 66
abbrev N_law : List Str := ["script", "town", "size", "most", "sizes", "fact", "good", "told", "row", "number", "kind", "some"]
theorem sc_law : FnScope N_law ["script"] (defScope s_law) := ⟨rfl, rfl, rfl, by decide +kernel, rfl, by decide +kernel, by decide +kernel⟩
structure Txt (R : Rx) (mg : Str → Option Value) (cB : Addr) : Prop where
  n_ValueError : mg "ValueError" = none
  n_all : mg "all" = none
  n_isinstance : mg "isinstance" = none
  n_len : mg "len" = none
  n_list : mg "list" = none
  n_max : mg "max" = none
  n_min : mg "min" = none
  n_range : mg "range" = none
  g_MOST_SIZE : ∃ t, mg "MOST_SIZE" = some (.int 8 t)
  g_MOST_WORTH : ∃ t, mg "MOST_WORTH" = some (.int 9 t)
  g_MOST_TOLD : ∃ t, mg "MOST_TOLD" = some (.int 6 t)
  w_WORDS : ∃ a, mg "WORDS" = some (.ref a) ∧ ∀ F, Dt R.K F (.ref a) d_WORDS
  e_BadRow : ExcT R mg "BadRow" 0
  e_BadStretch : ExcT R mg "BadStretch" 1
  e_BadSize : ExcT R mg "BadSize" 2
  e_BadTold : ExcT R mg "BadTold" 3
  e_NoRow : ExcT R mg "NoRow" 4
  e_BadNumber : ExcT R mg "BadNumber" 5
  e_BadText : ExcT R mg "BadText" 6
  g_BackError : mg "BackError" = some (.ref cB)
  x_BackError : ∀ e, PySem.W.exmOne R.K (.ref (R.ca e)) (.ref cB) = some true
  xc : ∀ c, ExcC R.K (R.ca c)
  k_BadNumber : ∀ c, PySem.W.kitOne R.K (.ref (R.ca c)) (.ref (R.ca 5)) = some (is_BadNumber c)
  k_BadRow : ∀ c, PySem.W.kitOne R.K (.ref (R.ca c)) (.ref (R.ca 0)) = some (is_BadRow c)
  k_BadSize : ∀ c, PySem.W.kitOne R.K (.ref (R.ca c)) (.ref (R.ca 2)) = some (is_BadSize c)
  k_BadStretch : ∀ c, PySem.W.kitOne R.K (.ref (R.ca c)) (.ref (R.ca 1)) = some (is_BadStretch c)
  k_BadText : ∀ c, PySem.W.kitOne R.K (.ref (R.ca c)) (.ref (R.ca 6)) = some (is_BadText c)
  k_BadTold : ∀ c, PySem.W.kitOne R.K (.ref (R.ca c)) (.ref (R.ca 3)) = some (is_BadTold c)
  k_NoRow : ∀ c, PySem.W.kitOne R.K (.ref (R.ca c)) (.ref (R.ca 4)) = some (is_NoRow c)
  k_ValueError : ∀ c, PySem.W.kitOne R.K (.ref (R.ca c)) (.type "ValueError") = some (is_ValueError c)
section
variable {R : Rx} {P : Program} {w : World} {mg : Str → Option Value} {base : Heap} {cB : Addr}
theorem ok_look_sizes {f : Addr} {fd : FuncData} (T : Txt R mg cB) (F : Fun R.K "look_sizes" "look_sizes" s_look_sizes f fd) (g : mg "look_sizes" = some (.ref f)) (b : Binds R.K fd ["size", "most"] [])  : FnD R P w mg base 1 "look_sizes" 2 m_look_sizes :=
  fnD_of (fb := b_look_sizes) F sc_look_sizes rfl rfl g b fun cdv A outer s H E C =>
      (dss_one (ds_if (dt_w (dw_or (dt_not (dt_chain op_le opm_cmp op_le opm_cmp de_int (de_var 0) (de_glob (v := .int 8) T.g_MOST_SIZE.choose_spec ⟨_, rfl⟩ (fun _ => .int 8)))) (dw_or1 (dt_not (dt_chain op_le opm_cmp op_le opm_cmp de_int (de_var 1) (de_glob (v := .int 9) T.g_MOST_WORTH.choose_spec ⟨_, rfl⟩ (fun _ => .int 9)))))))
      (dss_one (ds_raise C T.e_BadSize))
      dss_nil))
theorem ok_look_row {f : Addr} {fd : FuncData} (T : Txt R mg cB) (F : Fun R.K "look_row" "look_row" s_look_row f fd) (g : mg "look_row" = some (.ref f)) (b : Binds R.K fd ["row"] [])  : FnD R P w mg base 1 "look_row" 1 m_look_row :=
  fnD_of (fb := b_look_row) F sc_look_row rfl rfl g b fun cdv A outer s H E C =>
      (dss_one (ds_if (dt_w (dw_or (dt_not (dt_chain op_le opm_cmp op_le opm_cmp de_int (de_len C T.n_len (de_var 0)) (de_glob (v := .int 8) T.g_MOST_SIZE.choose_spec ⟨_, rfl⟩ (fun _ => .int 8)))) (dw_or1 (dt_not (dt_tru C (de_all C T.n_all (de_lcN C 1 [("worth", 1)] (di_list C (de_var 0)) (blkOk_by (own := [("worth", 1)]) (N := N_look_row) (sc := defScope s_look_row) (by decide +kernel)) (.inl rfl) (fun s H Cc cl fp C => (de_chain op_le opm_cmp op_le opm_cmp de_int (de_var 1) (de_glob (v := .int 9) T.g_MOST_WORTH.choose_spec ⟨_, rfl⟩ (fun _ => .int 9)))))))))))
      (dss_one (ds_raise C T.e_BadRow))
      dss_nil))
theorem ok_is_fact {f : Addr} {fd : FuncData} (T : Txt R mg cB) (F : Fun R.K "is_fact" "is_fact" s_is_fact f fd) (g : mg "is_fact" = some (.ref f)) (b : Binds R.K fd ["size", "most", "fact"] [])  : FnD R P w mg base 1 "is_fact" 3 m_is_fact :=
  fnD_of (fb := b_is_fact) F sc_is_fact rfl rfl g b fun cdv A outer s H E C =>
      (dss_cons (ds_if (dt_w (dw_or (dt_cmp (op_neR C) opm_ne (de_len C T.n_len (de_var 2)) de_int (nomark _)) (dw_or1 (dt_cmp (op_notInR C) (opm_in true) (de_ix C (de_var 2) de_int) (de_glob (v := .ref T.w_WORDS.choose) T.w_WORDS.choose_spec.1 rfl T.w_WORDS.choose_spec.2) (by rfl)))))
      (dss_one (ds_ret de_bl))
      dss_nil)
      (dss_one (ds_ret (de_and (de_chain3 op_le opm_cmp op_le opm_cmp op_lt opm_cmp de_int (de_ix C (de_var 2) de_int) (de_ix C (de_var 2) de_int) (de_var 0)) (de_one (de_chain op_le opm_cmp op_le opm_cmp de_int (de_ix C (de_var 2) de_int) (de_var 1)))))))
theorem ok_look_told {f : Addr} {fd : FuncData} (T : Txt R mg cB) (F : Fun R.K "look_told" "look_told" s_look_told f fd) (g : mg "look_told" = some (.ref f)) (b : Binds R.K fd ["size", "most", "told"] []) (h_look_sizes : FnD R P w mg base 1 "look_sizes" 2 m_look_sizes) (h_is_fact : FnD R P w mg base 1 "is_fact" 3 m_is_fact) : FnD R P w mg base 2 "look_told" 3 m_look_told :=
  fnD_of (fb := b_look_told) F sc_look_told rfl rfl g b fun cdv A outer s H E C =>
      (dss_cons (ds_expr (de_call C h_look_sizes (by decide) (da_cons (de_var 0) (da_cons (de_var 1) da_nil))))
      (dss_one (ds_if (dt_w (dw_or (dt_cmp op_gt opm_cmp (de_len C T.n_len (de_var 2)) (de_glob (v := .int 6) T.g_MOST_TOLD.choose_spec ⟨_, rfl⟩ (fun _ => .int 6)) (nomark _)) (dw_or1 (dt_not (dt_tru C (de_all C T.n_all (de_lcN C 3 [("fact", 3)] (di_list C (de_var 2)) (blkOk_by (own := [("fact", 3)]) (N := N_look_told) (sc := defScope s_look_told) (by decide +kernel)) (.inl rfl) (fun s H Cc cl fp C => (de_call C h_is_fact (by decide) (da_cons (de_var 0) (da_cons (de_var 1) (da_cons (de_var 3) da_nil))))))))))))
      (dss_one (ds_raise C T.e_BadTold))
      dss_nil)))
theorem ok_worth_of {f : Addr} {fd : FuncData} (T : Txt R mg cB) (F : Fun R.K "worth_of" "worth_of" s_worth_of f fd) (g : mg "worth_of" = some (.ref f)) (b : Binds R.K fd ["row", "fact"] [])  : FnD R P w mg base 1 "worth_of" 2 m_worth_of :=
  fnD_of (fb := b_worth_of) F sc_worth_of rfl rfl g b fun cdv A outer s H E C =>
      (dss_cons (ds_set C (i := 2) rfl (.inl rfl) (de_sl C false (de_var 0) (do_some (de_ix C (de_var 1) de_int)) (do_some (de_add C false (de_ix C (de_var 1) de_int) de_int))))
      (dss_one (ds_ret (de_if (dt_cmp (op_eqR C) opm_eq (de_ix C (de_var 1) de_int) de_str (nomark _)) (de_max C T.n_max (de_var 2)) (de_min C T.n_min (de_var 2))))))
theorem ok_is_row_of {f : Addr} {fd : FuncData} (T : Txt R mg cB) (F : Fun R.K "is_row_of" "is_row_of" s_is_row_of f fd) (g : mg "is_row_of" = some (.ref f)) (b : Binds R.K fd ["size", "most", "row"] [])  : FnD R P w mg base 1 "is_row_of" 3 m_is_row_of :=
  fnD_of (fb := b_is_row_of) F sc_is_row_of rfl rfl g b fun cdv A outer s H E C =>
      (dss_one (ds_ret (de_and (de_cmp (op_eqR C) opm_eq (de_len C T.n_len (de_var 2)) (de_var 0) (nomark _)) (de_one (de_all C T.n_all (de_lcN C 3 [("worth", 3)] (di_list C (de_var 2)) (blkOk_by (own := [("worth", 3)]) (N := N_is_row_of) (sc := defScope s_is_row_of) (by decide +kernel)) (.inl rfl) (fun s H Cc cl fp C => (de_chain op_le opm_cmp op_le opm_cmp de_int (de_var 3) (de_var 1)))))))))
theorem ok_broken {f : Addr} {fd : FuncData} (T : Txt R mg cB) (F : Fun R.K "broken" "broken" s_broken f fd) (g : mg "broken" = some (.ref f)) (b : Binds R.K fd ["size", "most", "told", "row"] []) (h_look_told : FnD R P w mg base 2 "look_told" 3 m_look_told) (h_look_row : FnD R P w mg base 1 "look_row" 1 m_look_row) (h_is_row_of : FnD R P w mg base 1 "is_row_of" 3 m_is_row_of) (h_worth_of : FnD R P w mg base 1 "worth_of" 2 m_worth_of) : FnD R P w mg base 3 "broken" 4 m_broken :=
  fnD_of (fb := b_broken) F sc_broken rfl rfl g b fun cdv A outer s H E C =>
      (dss_cons (ds_expr (de_call C h_look_told (by decide) (da_cons (de_var 0) (da_cons (de_var 1) (da_cons (de_var 2) da_nil)))))
      (dss_cons (ds_expr (de_call C h_look_row (by decide) (da_cons (de_var 3) da_nil)))
      (dss_cons (ds_if (dt_not (dt_tru C (de_call C h_is_row_of (by decide) (da_cons (de_var 0) (da_cons (de_var 1) (da_cons (de_var 3) da_nil))))))
      (dss_one (ds_ret (de_listrange C false T.n_list T.n_range (de_len C T.n_len (de_var 2)))))
      dss_nil)
      (dss_one (ds_ret (de_lcI C 4 [("k", 4)] (di_range1 T.n_range (da_cons (de_len C T.n_len (de_var 2)) da_nil)) (blkOk_by (own := [("k", 4)]) (N := N_broken) (sc := defScope s_broken) (by decide +kernel)) (.inl rfl) (fun s H Cc cl fp C => (dt_cmp (op_neR C) opm_ne (de_call C h_worth_of (by decide) (da_cons (de_var 3) (da_cons (de_ix C (de_var 2) (de_var 4)) da_nil))) (de_ix C (de_ix C (de_var 2) (de_var 4)) de_int) (nomark _))) (fun s H Cc cl fp C => (de_var 4))))))))
theorem ok_bounds {f : Addr} {fd : FuncData} (T : Txt R mg cB) (F : Fun R.K "bounds" "bounds" s_bounds f fd) (g : mg "bounds" = some (.ref f)) (b : Binds R.K fd ["size", "most", "told"] []) (h_look_told : FnD R P w mg base 2 "look_told" 3 m_look_told) : FnD R P w mg base 3 "bounds" 3 m_bounds :=
  fnD_of (fb := b_bounds) F sc_bounds rfl rfl g b fun cdv A outer s H E C =>
      (dss_cons (ds_expr (de_call C h_look_told (by decide) (da_cons (de_var 0) (da_cons (de_var 1) (da_cons (de_var 2) da_nil)))))
      (dss_cons (ds_set C (i := 3) rfl (.inl rfl) (de_lst true da_nil))
      (dss_cons (ds_for C (i := 4) rfl (.inr rfl) (di_range1 T.n_range (da_cons (de_var 0) da_nil))
      (dss_cons (ds_lcI C 5 8 [("fact", 8)] (di_list C (de_var 2)) (blkOk_by (own := [("fact", 8)]) (N := N_bounds) (sc := defScope s_bounds) (by decide +kernel)) (.inl rfl) (fun s H Cc cl fp C => (dt_chain op_le opm_cmp op_le opm_cmp (de_ix C (de_var 8) de_int) (de_var 4) (de_ix C (de_var 8) de_int))) (fun s H Cc cl fp C => (de_var 8)) (sw_true rfl rfl rfl (by decide +kernel)))
      (dss_cons (ds_set C (i := 6) rfl (.inl rfl) (de_max C T.n_max (de_add C false (de_lcI C 8 [("fact", 8)] (di_list C (de_var 5)) (blkOk_by (own := [("fact", 8)]) (N := N_bounds) (sc := defScope s_bounds) (by decide +kernel)) (.inl rfl) (fun s H Cc cl fp C => (dt_cmp (op_eqR C) opm_eq (de_ix C (de_var 8) de_int) de_str (nomark _))) (fun s H Cc cl fp C => (de_ix C (de_var 8) de_int))) (de_lst false (da_cons de_int da_nil)))))
      (dss_cons (ds_set C (i := 7) rfl (.inl rfl) (de_min C T.n_min (de_add C false (de_lcI C 8 [("fact", 8)] (di_list C (de_var 5)) (blkOk_by (own := [("fact", 8)]) (N := N_bounds) (sc := defScope s_bounds) (by decide +kernel)) (.inl rfl) (fun s H Cc cl fp C => (dt_cmp (op_eqR C) opm_eq (de_ix C (de_var 8) de_int) de_str (nomark _))) (fun s H Cc cl fp C => (de_ix C (de_var 8) de_int))) (de_lst false (da_cons (de_var 1) da_nil)))))
      (dss_one (ds_expr (de_append C (de_var 3) (de_if (dt_cmp op_le opm_cmp (de_var 6) (de_var 7) (nomark _)) (de_tup (da_cons (de_var 6) (da_cons (de_var 7) da_nil))) de_non))))))))
      (dss_one (ds_ret (de_var 3))))))
theorem ok_how_many {f : Addr} {fd : FuncData} (T : Txt R mg cB) (F : Fun R.K "how_many" "how_many" s_how_many f fd) (g : mg "how_many" = some (.ref f)) (b : Binds R.K fd ["size", "most", "told"] []) (h_look_told : FnD R P w mg base 2 "look_told" 3 m_look_told) : FnD R P w mg base 3 "how_many" 3 m_how_many :=
  fnD_of (fb := b_how_many) F sc_how_many rfl rfl g b fun cdv A outer s H E C =>
      (dss_cons (ds_expr (de_call C h_look_told (by decide) (da_cons (de_var 0) (da_cons (de_var 1) (da_cons (de_var 2) da_nil)))))
      dss_bad)
theorem ok_row_at {f : Addr} {fd : FuncData} (T : Txt R mg cB) (F : Fun R.K "row_at" "row_at" s_row_at f fd) (g : mg "row_at" = some (.ref f)) (b : Binds R.K fd ["size", "most", "told", "number"] []) (h_look_told : FnD R P w mg base 2 "look_told" 3 m_look_told) : FnD R P w mg base 3 "row_at" 4 m_row_at :=
  fnD_of (fb := b_row_at) F sc_row_at rfl rfl g b fun cdv A outer s H E C =>
      (dss_cons (ds_expr (de_call C h_look_told (by decide) (da_cons (de_var 0) (da_cons (de_var 1) (da_cons (de_var 2) da_nil)))))
      dss_bad)
theorem ok_number_of {f : Addr} {fd : FuncData} (T : Txt R mg cB) (F : Fun R.K "number_of" "number_of" s_number_of f fd) (g : mg "number_of" = some (.ref f)) (b : Binds R.K fd ["size", "most", "told", "row"] []) (h_look_told : FnD R P w mg base 2 "look_told" 3 m_look_told) (h_look_row : FnD R P w mg base 1 "look_row" 1 m_look_row) : FnD R P w mg base 3 "number_of" 4 m_number_of :=
  fnD_of (fb := b_number_of) F sc_number_of rfl rfl g b fun cdv A outer s H E C =>
      (dss_cons (ds_expr (de_call C h_look_told (by decide) (da_cons (de_var 0) (da_cons (de_var 1) (da_cons (de_var 2) da_nil)))))
      (dss_cons (ds_expr (de_call C h_look_row (by decide) (da_cons (de_var 3) da_nil)))
      dss_bad))
theorem ok_may {f : Addr} {fd : FuncData} (T : Txt R mg cB) (F : Fun R.K "may" "may" s_may f fd) (g : mg "may" = some (.ref f)) (b : Binds R.K fd ["size", "most", "told", "place"] []) (h_look_told : FnD R P w mg base 2 "look_told" 3 m_look_told) : FnD R P w mg base 3 "may" 4 m_may :=
  fnD_of (fb := b_may) F sc_may rfl rfl g b fun cdv A outer s H E C =>
      (dss_cons (ds_expr (de_call C h_look_told (by decide) (da_cons (de_var 0) (da_cons (de_var 1) (da_cons (de_var 2) da_nil)))))
      (dss_cons (ds_if (dt_not (dt_chain op_le opm_cmp op_lt opm_cmp de_int (de_var 3) (de_var 0)))
      (dss_one (ds_raise C T.e_BadStretch))
      dss_nil)
      dss_bad))
theorem ok_sure {f : Addr} {fd : FuncData} (T : Txt R mg cB) (F : Fun R.K "sure" "sure" s_sure f fd) (g : mg "sure" = some (.ref f)) (b : Binds R.K fd ["size", "most", "told"] []) (h_look_told : FnD R P w mg base 2 "look_told" 3 m_look_told) : FnD R P w mg base 3 "sure" 3 m_sure :=
  fnD_of (fb := b_sure) F sc_sure rfl rfl g b fun cdv A outer s H E C =>
      (dss_cons (ds_expr (de_call C h_look_told (by decide) (da_cons (de_var 0) (da_cons (de_var 1) (da_cons (de_var 2) da_nil)))))
      dss_bad)
theorem ok_clash {f : Addr} {fd : FuncData} (T : Txt R mg cB) (F : Fun R.K "clash" "clash" s_clash f fd) (g : mg "clash" = some (.ref f)) (b : Binds R.K fd ["size", "most", "told"] []) (h_look_told : FnD R P w mg base 2 "look_told" 3 m_look_told) : FnD R P w mg base 3 "clash" 3 m_clash :=
  fnD_of (fb := b_clash) F sc_clash rfl rfl g b fun cdv A outer s H E C =>
      (dss_cons (ds_expr (de_call C h_look_told (by decide) (da_cons (de_var 0) (da_cons (de_var 1) (da_cons (de_var 2) da_nil)))))
      dss_bad)
theorem ok_is_clash {f : Addr} {fd : FuncData} (T : Txt R mg cB) (F : Fun R.K "is_clash" "is_clash" s_is_clash f fd) (g : mg "is_clash" = some (.ref f)) (b : Binds R.K fd ["size", "most", "told", "some"] []) (h_look_told : FnD R P w mg base 2 "look_told" 3 m_look_told) : FnD R P w mg base 3 "is_clash" 4 m_is_clash :=
  fnD_of (fb := b_is_clash) F sc_is_clash rfl rfl g b fun cdv A outer s H E C =>
      (dss_cons (ds_expr (de_call C h_look_told (by decide) (da_cons (de_var 0) (da_cons (de_var 1) (da_cons (de_var 2) da_nil)))))
      dss_bad)
theorem ok_left_out {f : Addr} {fd : FuncData} (T : Txt R mg cB) (F : Fun R.K "left_out" "left_out" s_left_out f fd) (g : mg "left_out" = some (.ref f)) (b : Binds R.K fd ["size", "most", "told"] []) (h_look_told : FnD R P w mg base 2 "look_told" 3 m_look_told) : FnD R P w mg base 3 "left_out" 3 m_left_out :=
  fnD_of (fb := b_left_out) F sc_left_out rfl rfl g b fun cdv A outer s H E C =>
      (dss_cons (ds_expr (de_call C h_look_told (by decide) (da_cons (de_var 0) (da_cons (de_var 1) (da_cons (de_var 2) da_nil)))))
      dss_bad)
theorem ok_least_cost {f : Addr} {fd : FuncData} (T : Txt R mg cB) (F : Fun R.K "least_cost" "least_cost" s_least_cost f fd) (g : mg "least_cost" = some (.ref f)) (b : Binds R.K fd ["size", "most", "told"] []) (h_look_told : FnD R P w mg base 2 "look_told" 3 m_look_told) : FnD R P w mg base 3 "least_cost" 3 m_least_cost :=
  fnD_of (fb := b_least_cost) F sc_least_cost rfl rfl g b fun cdv A outer s H E C =>
      (dss_cons (ds_expr (de_call C h_look_told (by decide) (da_cons (de_var 0) (da_cons (de_var 1) (da_cons (de_var 2) da_nil)))))
      dss_bad)
theorem ok_mended {f : Addr} {fd : FuncData} (T : Txt R mg cB) (F : Fun R.K "mended" "mended" s_mended f fd) (g : mg "mended" = some (.ref f)) (b : Binds R.K fd ["size", "most", "told"] []) (h_look_told : FnD R P w mg base 2 "look_told" 3 m_look_told) : FnD R P w mg base 3 "mended" 3 m_mended :=
  fnD_of (fb := b_mended) F sc_mended rfl rfl g b fun cdv A outer s H E C =>
      (dss_cons (ds_expr (de_call C h_look_told (by decide) (da_cons (de_var 0) (da_cons (de_var 1) (da_cons (de_var 2) da_nil)))))
      dss_bad)
theorem ok_first_row {f : Addr} {fd : FuncData} (T : Txt R mg cB) (F : Fun R.K "first_row" "first_row" s_first_row f fd) (g : mg "first_row" = some (.ref f)) (b : Binds R.K fd ["size", "most", "told"] []) (h_look_told : FnD R P w mg base 2 "look_told" 3 m_look_told) : FnD R P w mg base 3 "first_row" 3 m_first_row :=
  fnD_of (fb := b_first_row) F sc_first_row rfl rfl g b fun cdv A outer s H E C =>
      (dss_cons (ds_expr (de_call C h_look_told (by decide) (da_cons (de_var 0) (da_cons (de_var 1) (da_cons (de_var 2) da_nil)))))
      dss_bad)
theorem ok_look_fact {f : Addr} {fd : FuncData} (T : Txt R mg cB) (F : Fun R.K "look_fact" "look_fact" s_look_fact f fd) (g : mg "look_fact" = some (.ref f)) (b : Binds R.K fd ["size", "most", "told", "fact"] []) (h_look_told : FnD R P w mg base 2 "look_told" 3 m_look_told) (h_is_fact : FnD R P w mg base 1 "is_fact" 3 m_is_fact) : FnD R P w mg base 3 "look_fact" 4 m_look_fact :=
  fnD_of (fb := b_look_fact) F sc_look_fact rfl rfl g b fun cdv A outer s H E C =>
      (dss_cons (ds_expr (de_call C h_look_told (by decide) (da_cons (de_var 0) (da_cons (de_var 1) (da_cons (de_var 2) da_nil)))))
      (dss_one (ds_if (dt_not (dt_tru C (de_call C h_is_fact (by decide) (da_cons (de_var 0) (da_cons (de_var 1) (da_cons (de_var 3) da_nil))))))
      (dss_one (ds_raise C T.e_BadTold))
      dss_nil)))
theorem ok_worths {f : Addr} {fd : FuncData} (T : Txt R mg cB) (F : Fun R.K "worths" "worths" s_worths f fd) (g : mg "worths" = some (.ref f)) (b : Binds R.K fd ["size", "most", "told", "word", "first", "last"] []) (h_look_fact : FnD R P w mg base 3 "look_fact" 4 m_look_fact) : FnD R P w mg base 4 "worths" 6 m_worths :=
  fnD_of (fb := b_worths) F sc_worths rfl rfl g b fun cdv A outer s H E C =>
      (dss_cons (ds_expr (de_call C h_look_fact (by decide) (da_cons (de_var 0) (da_cons (de_var 1) (da_cons (de_var 2) (da_cons (de_tup (da_cons (de_var 3) (da_cons (de_var 4) (da_cons (de_var 5) (da_cons de_int da_nil))))) da_nil))))))
      dss_bad)
theorem ok_follows {f : Addr} {fd : FuncData} (T : Txt R mg cB) (F : Fun R.K "follows" "follows" s_follows f fd) (g : mg "follows" = some (.ref f)) (b : Binds R.K fd ["size", "most", "told", "fact"] []) (h_look_fact : FnD R P w mg base 3 "look_fact" 4 m_look_fact) : FnD R P w mg base 4 "follows" 4 m_follows :=
  fnD_of (fb := b_follows) F sc_follows rfl rfl g b fun cdv A outer s H E C =>
      (dss_cons (ds_expr (de_call C h_look_fact (by decide) (da_cons (de_var 0) (da_cons (de_var 1) (da_cons (de_var 2) (da_cons (de_var 3) da_nil))))))
      dss_bad)
theorem ok_parting {f : Addr} {fd : FuncData} (T : Txt R mg cB) (F : Fun R.K "parting" "parting" s_parting f fd) (g : mg "parting" = some (.ref f)) (b : Binds R.K fd ["size", "most", "told", "fact"] []) (h_look_fact : FnD R P w mg base 3 "look_fact" 4 m_look_fact) : FnD R P w mg base 4 "parting" 4 m_parting :=
  fnD_of (fb := b_parting) F sc_parting rfl rfl g b fun cdv A outer s H E C =>
      (dss_cons (ds_expr (de_call C h_look_fact (by decide) (da_cons (de_var 0) (da_cons (de_var 1) (da_cons (de_var 2) (da_cons (de_var 3) da_nil))))))
      dss_bad)
theorem ok_needless {f : Addr} {fd : FuncData} (T : Txt R mg cB) (F : Fun R.K "needless" "needless" s_needless f fd) (g : mg "needless" = some (.ref f)) (b : Binds R.K fd ["size", "most", "told"] []) (h_look_told : FnD R P w mg base 2 "look_told" 3 m_look_told) : FnD R P w mg base 3 "needless" 3 m_needless :=
  fnD_of (fb := b_needless) F sc_needless rfl rfl g b fun cdv A outer s H E C =>
      (dss_cons (ds_expr (de_call C h_look_told (by decide) (da_cons (de_var 0) (da_cons (de_var 1) (da_cons (de_var 2) da_nil)))))
      dss_bad)
theorem ok_lessened {f : Addr} {fd : FuncData} (T : Txt R mg cB) (F : Fun R.K "lessened" "lessened" s_lessened f fd) (g : mg "lessened" = some (.ref f)) (b : Binds R.K fd ["size", "most", "told"] []) (h_look_told : FnD R P w mg base 2 "look_told" 3 m_look_told) : FnD R P w mg base 3 "lessened" 3 m_lessened :=
  fnD_of (fb := b_lessened) F sc_lessened rfl rfl g b fun cdv A outer s H E C =>
      (dss_cons (ds_expr (de_call C h_look_told (by decide) (da_cons (de_var 0) (da_cons (de_var 1) (da_cons (de_var 2) da_nil)))))
      dss_bad)
theorem ok_are_alike {f : Addr} {fd : FuncData} (T : Txt R mg cB) (F : Fun R.K "are_alike" "are_alike" s_are_alike f fd) (g : mg "are_alike" = some (.ref f)) (b : Binds R.K fd ["size", "most", "one", "other"] []) (h_look_told : FnD R P w mg base 2 "look_told" 3 m_look_told) : FnD R P w mg base 3 "are_alike" 4 m_are_alike :=
  fnD_of (fb := b_are_alike) F sc_are_alike rfl rfl g b fun cdv A outer s H E C =>
      (dss_cons (ds_expr (de_call C h_look_told (by decide) (da_cons (de_var 0) (da_cons (de_var 1) (da_cons (de_var 2) da_nil)))))
      (dss_cons (ds_expr (de_call C h_look_told (by decide) (da_cons (de_var 0) (da_cons (de_var 1) (da_cons (de_var 3) da_nil)))))
      dss_bad))
theorem ok_first_apart {f : Addr} {fd : FuncData} (T : Txt R mg cB) (F : Fun R.K "first_apart" "first_apart" s_first_apart f fd) (g : mg "first_apart" = some (.ref f)) (b : Binds R.K fd ["size", "most", "one", "other"] []) (h_look_told : FnD R P w mg base 2 "look_told" 3 m_look_told) : FnD R P w mg base 3 "first_apart" 4 m_first_apart :=
  fnD_of (fb := b_first_apart) F sc_first_apart rfl rfl g b fun cdv A outer s H E C =>
      (dss_cons (ds_expr (de_call C h_look_told (by decide) (da_cons (de_var 0) (da_cons (de_var 1) (da_cons (de_var 2) da_nil)))))
      (dss_cons (ds_expr (de_call C h_look_told (by decide) (da_cons (de_var 0) (da_cons (de_var 1) (da_cons (de_var 3) da_nil)))))
      dss_bad))
theorem ok_written {f : Addr} {fd : FuncData} (T : Txt R mg cB) (F : Fun R.K "written" "written" s_written f fd) (g : mg "written" = some (.ref f)) (b : Binds R.K fd ["size", "most", "told"] []) (h_look_told : FnD R P w mg base 2 "look_told" 3 m_look_told) : FnD R P w mg base 3 "written" 3 m_written :=
  fnD_of (fb := b_written) F sc_written rfl rfl g b fun cdv A outer s H E C =>
      (dss_cons (ds_expr (de_call C h_look_told (by decide) (da_cons (de_var 0) (da_cons (de_var 1) (da_cons (de_var 2) da_nil)))))
      dss_bad)
theorem ok__law_cell {f : Addr} {fd : FuncData} (T : Txt R mg cB) (F : Fun R.K "_law_cell" "_law_cell" s__law_cell f fd) (g : mg "_law_cell" = some (.ref f)) (b : Binds R.K fd ["script", "k"] [])  : FnD R P w mg base 1 "_law_cell" 2 m__law_cell :=
  fnD_of (fb := b__law_cell) F sc__law_cell rfl rfl g b fun cdv A outer s H E C =>
      (dss_cons (ds_if (dt_tru C (de_var 0))
      (dss_one (ds_ret (de_ix C (de_var 0) (de_mod (de_var 1) (de_len C T.n_len (de_var 0))))))
      dss_nil)
      (dss_one (ds_ret de_int)))
theorem ok__law_mix {f : Addr} {fd : FuncData} (T : Txt R mg cB) (F : Fun R.K "_law_mix" "_law_mix" s__law_mix f fd) (g : mg "_law_mix" = some (.ref f)) (b : Binds R.K fd ["script", "k"] []) (h__law_cell : FnD R P w mg base 1 "_law_cell" 2 m__law_cell) : FnD R P w mg base 2 "_law_mix" 2 m__law_mix :=
  fnD_of (fb := b__law_mix) F sc__law_mix rfl rfl g b fun cdv A outer s H E C =>
      (dss_cons (ds_set C (i := 2) rfl (.inl rfl) (de_mod (de_add C false (de_call C h__law_cell (by decide) (da_cons (de_var 0) (da_cons (de_var 1) da_nil))) (de_mul false de_int (de_add C false (de_var 1) de_int))) de_int))
      (dss_cons (ds_set C (i := 2) rfl (.inl rfl) (de_mod (de_pow (de_var 2) de_int) de_int))
      (dss_one (ds_ret (de_mod (de_add C false (de_mul false (de_fdiv (de_var 2) de_int) de_int) (de_var 2)) de_int)))))
theorem ok__law_draw {f : Addr} {fd : FuncData} (T : Txt R mg cB) (F : Fun R.K "_law_draw" "_law_draw" s__law_draw f fd) (g : mg "_law_draw" = some (.ref f)) (b : Binds R.K fd ["script", "town", "many"] []) (h__law_mix : FnD R P w mg base 2 "_law_mix" 2 m__law_mix) : FnD R P w mg base 3 "_law_draw" 3 m__law_draw :=
  fnD_of (fb := b__law_draw) F sc__law_draw rfl rfl g b fun cdv A outer s H E C =>
      (dss_cons (ds_expr (de_append C (de_var 1) de_int))
      (dss_one (ds_ret (de_mod (de_fdiv (de_call C h__law_mix (by decide) (da_cons (de_var 0) (da_cons (de_len C T.n_len (de_var 1)) da_nil))) de_int) (de_var 2)))))
theorem ok__law_pick {f : Addr} {fd : FuncData} (T : Txt R mg cB) (F : Fun R.K "_law_pick" "_law_pick" s__law_pick f fd) (g : mg "_law_pick" = some (.ref f)) (b : Binds R.K fd ["script", "town", "some"] []) (h__law_draw : FnD R P w mg base 3 "_law_draw" 3 m__law_draw) : FnD R P w mg base 4 "_law_pick" 3 m__law_pick :=
  fnD_of (fb := b__law_pick) F sc__law_pick rfl rfl g b fun cdv A outer s H E C =>
      (dss_one (ds_ret (de_ix C (de_var 2) (de_call C h__law_draw (by decide) (da_cons (de_var 0) (da_cons (de_var 1) (da_cons (de_len C T.n_len (de_var 2)) da_nil)))))))
theorem ok__law_refusal {f : Addr} {fd : FuncData} (T : Txt R mg cB) (F : Fun R.K "_law_refusal" "_law_refusal" s__law_refusal f fd) (g : mg "_law_refusal" = some (.ref f)) (b : Binds R.K fd ["caught"] [])  : FnD R P w mg base 1 "_law_refusal" 1 m__law_refusal :=
  fnD_of (fb := b__law_refusal) F sc__law_refusal rfl rfl g b fun cdv A outer s H E C =>
      (dss_cons (ds_if (dt_cmp op_isN opm_isN (de_var 0) de_non (nomark _))
      (dss_one (ds_ret (de_tup (da_cons de_str da_nil))))
      dss_nil)
      (dss_cons (ds_set C (i := 1) rfl (.inl rfl) (de_lst true (da_cons (de_isi C T.n_isinstance (de_var 0) (pe_glob (v := .ref (R.ca 0)) (by rfl) T.e_BadRow.gC rfl) (fun _ z => z) T.xc T.k_BadRow) (da_cons (de_isi C T.n_isinstance (de_var 0) (pe_glob (v := .ref (R.ca 1)) (by rfl) T.e_BadStretch.gC rfl) (fun _ z => z) T.xc T.k_BadStretch) (da_cons (de_isi C T.n_isinstance (de_var 0) (pe_glob (v := .ref (R.ca 2)) (by rfl) T.e_BadSize.gC rfl) (fun _ z => z) T.xc T.k_BadSize) da_nil)))))
      (dss_cons (ds_set C (i := 1) rfl (.inl rfl) (de_add C true (de_var 1) (de_lst false (da_cons (de_isi C T.n_isinstance (de_var 0) (pe_glob (v := .ref (R.ca 3)) (by rfl) T.e_BadTold.gC rfl) (fun _ z => z) T.xc T.k_BadTold) (da_cons (de_isi C T.n_isinstance (de_var 0) (pe_glob (v := .ref (R.ca 4)) (by rfl) T.e_NoRow.gC rfl) (fun _ z => z) T.xc T.k_NoRow) (da_cons (de_isi C T.n_isinstance (de_var 0) (pe_glob (v := .ref (R.ca 5)) (by rfl) T.e_BadNumber.gC rfl) (fun _ z => z) T.xc T.k_BadNumber) da_nil))))))
      (dss_cons (ds_expr (de_append C (de_var 1) (de_isi C T.n_isinstance (de_var 0) (pe_glob (v := .ref (R.ca 6)) (by rfl) T.e_BadText.gC rfl) (fun _ z => z) T.xc T.k_BadText)))
      (dss_cons (ds_if (dt_w (dw_or (dt_cmp (op_neR C) opm_ne (de_count C (de_var 1) de_bl) de_int (nomark _)) (dw_or1 (dt_not (dt_tru C (de_isi C T.n_isinstance (de_var 0) (pe_bltn (v := .ty "ValueError") (by rfl) T.n_ValueError (by decide +kernel) rfl) (fun _ z => z) T.xc T.k_ValueError))))))
      (dss_one (ds_ret (de_tup (da_cons de_str da_nil))))
      dss_nil)
      (dss_cons (ds_set C (i := 2) rfl (.inl rfl) (de_lst false (da_cons de_str (da_cons de_str (da_cons de_str (da_cons de_str (da_cons de_str (da_cons de_str (da_cons de_str da_nil)))))))))
      (dss_one (ds_ret (de_tup (da_cons de_str (da_cons (de_ix C (de_var 2) (de_index C (de_var 1) de_bl)) da_nil)))))))))))
theorem ok__law_one_b {f : Addr} {fd : FuncData} (T : Txt R mg cB) (F : Fun R.K "_law_one_b" "_law_one_b" s__law_one_b f fd) (g : mg "_law_one_b" = some (.ref f)) (b : Binds R.K fd ["kind", "some"] []) (h_worths : FnD R P w mg base 4 "worths" 6 m_worths) (h_needless : FnD R P w mg base 3 "needless" 3 m_needless) (h_lessened : FnD R P w mg base 3 "lessened" 3 m_lessened) (h_follows : FnD R P w mg base 4 "follows" 4 m_follows) (h_are_alike : FnD R P w mg base 3 "are_alike" 4 m_are_alike) (h_parting : FnD R P w mg base 4 "parting" 4 m_parting) (h_first_apart : FnD R P w mg base 3 "first_apart" 4 m_first_apart) (h_written : FnD R P w mg base 3 "written" 3 m_written) : FnD R P w mg base 5 "_law_one_b" 2 m__law_one_b :=
  fnD_of (fb := b__law_one_b) F sc__law_one_b rfl rfl g b fun cdv A outer s H E C =>
      (dss_cons (ds_set C (i := 2) rfl (.inl rfl) (de_ix C (de_var 1) de_int))
      (dss_cons (ds_set C (i := 3) rfl (.inl rfl) (de_ix C (de_var 1) de_int))
      (dss_cons (ds_set C (i := 4) rfl (.inl rfl) (de_ix C (de_var 1) de_int))
      (dss_cons (ds_set C (i := 5) rfl (.inl rfl) (de_ix C (de_var 1) de_int))
      (dss_cons (ds_set C (i := 6) rfl (.inl rfl) (de_ix C (de_var 1) de_int))
      (dss_cons (ds_if (dt_cmp (op_eqR C) opm_eq (de_var 0) de_int (nomark _))
      (dss_one (ds_ret (de_call C h_worths (by decide) (da_cons (de_var 2) (da_cons (de_var 3) (da_cons (de_var 4) (da_cons de_str (da_cons (de_var 6) (da_cons (de_var 6) da_nil)))))))))
      dss_nil)
      (dss_cons (ds_if (dt_cmp (op_eqR C) opm_eq (de_var 0) de_int (nomark _))
      (dss_one (ds_ret (de_call C h_needless (by decide) (da_cons (de_var 2) (da_cons (de_var 3) (da_cons (de_var 4) da_nil))))))
      dss_nil)
      (dss_cons (ds_if (dt_cmp (op_eqR C) opm_eq (de_var 0) de_int (nomark _))
      (dss_one (ds_ret (de_call C h_lessened (by decide) (da_cons (de_var 2) (da_cons (de_var 3) (da_cons (de_var 4) da_nil))))))
      dss_nil)
      (dss_cons (ds_if (dt_cmp (op_eqR C) opm_eq (de_var 0) de_int (nomark _))
      (dss_one (ds_ret (de_call C h_follows (by decide) (da_cons (de_var 2) (da_cons (de_var 3) (da_cons (de_var 4) (da_cons (de_var 5) da_nil)))))))
      dss_nil)
      (dss_cons (ds_if (dt_cmp (op_eqR C) opm_eq (de_var 0) de_int (nomark _))
      (dss_one (ds_ret (de_call C h_are_alike (by decide) (da_cons (de_var 2) (da_cons (de_var 3) (da_cons (de_var 4) (da_cons (de_lst false (da_cons (de_var 5) da_nil)) da_nil)))))))
      dss_nil)
      (dss_cons (ds_if (dt_cmp (op_eqR C) opm_eq (de_var 0) de_int (nomark _))
      (dss_one (ds_ret (de_call C h_parting (by decide) (da_cons (de_var 2) (da_cons (de_var 3) (da_cons (de_var 4) (da_cons (de_var 5) da_nil)))))))
      dss_nil)
      (dss_cons (ds_if (dt_cmp (op_eqR C) opm_eq (de_var 0) de_int (nomark _))
      (dss_one (ds_ret (de_call C h_first_apart (by decide) (da_cons (de_var 2) (da_cons (de_var 3) (da_cons (de_var 4) (da_cons (de_lst false (da_cons (de_var 5) da_nil)) da_nil)))))))
      dss_nil)
      (dss_cons (ds_if (dt_cmp (op_eqR C) opm_eq (de_var 0) de_int (nomark _))
      (dss_one (ds_ret (de_call C h_written (by decide) (da_cons (de_var 2) (da_cons (de_var 3) (da_cons (de_var 4) da_nil))))))
      dss_nil)
      (dss_one (ds_ret de_non)))))))))))))))
theorem ok__law_one {f : Addr} {fd : FuncData} (T : Txt R mg cB) (F : Fun R.K "_law_one" "_law_one" s__law_one f fd) (g : mg "_law_one" = some (.ref f)) (b : Binds R.K fd ["kind", "some"] []) (h_broken : FnD R P w mg base 3 "broken" 4 m_broken) (h_bounds : FnD R P w mg base 3 "bounds" 3 m_bounds) (h_how_many : FnD R P w mg base 3 "how_many" 3 m_how_many) (h_number_of : FnD R P w mg base 3 "number_of" 4 m_number_of) (h_row_at : FnD R P w mg base 3 "row_at" 4 m_row_at) (h_may : FnD R P w mg base 3 "may" 4 m_may) (h_sure : FnD R P w mg base 3 "sure" 3 m_sure) (h_clash : FnD R P w mg base 3 "clash" 3 m_clash) (h_is_clash : FnD R P w mg base 3 "is_clash" 4 m_is_clash) (h_left_out : FnD R P w mg base 3 "left_out" 3 m_left_out) (h_first_row : FnD R P w mg base 3 "first_row" 3 m_first_row) (h_mended : FnD R P w mg base 3 "mended" 3 m_mended) (h_least_cost : FnD R P w mg base 3 "least_cost" 3 m_least_cost) (h__law_one_b : FnD R P w mg base 5 "_law_one_b" 2 m__law_one_b) : FnD R P w mg base 6 "_law_one" 2 m__law_one :=
  fnD_of (fb := b__law_one) F sc__law_one rfl rfl g b fun cdv A outer s H E C =>
      (dss_cons (ds_set C (i := 2) rfl (.inl rfl) (de_ix C (de_var 1) de_int))
      (dss_cons (ds_set C (i := 3) rfl (.inl rfl) (de_ix C (de_var 1) de_int))
      (dss_cons (ds_set C (i := 4) rfl (.inl rfl) (de_ix C (de_var 1) de_int))
      (dss_cons (ds_set C (i := 5) rfl (.inl rfl) (de_ix C (de_var 1) de_int))
      (dss_cons (ds_set C (i := 6) rfl (.inl rfl) (de_ix C (de_var 1) de_int))
      (dss_cons (ds_if (dt_cmp (op_eqR C) opm_eq (de_var 0) de_int (nomark _))
      (dss_one (ds_ret (de_call C h_broken (by decide) (da_cons (de_var 2) (da_cons (de_var 3) (da_cons (de_var 4) (da_cons (de_var 5) da_nil)))))))
      dss_nil)
      (dss_cons (ds_if (dt_cmp (op_eqR C) opm_eq (de_var 0) de_int (nomark _))
      (dss_one (ds_ret (de_call C h_bounds (by decide) (da_cons (de_var 2) (da_cons (de_var 3) (da_cons (de_var 4) da_nil))))))
      dss_nil)
      (dss_cons (ds_if (dt_cmp (op_eqR C) opm_eq (de_var 0) de_int (nomark _))
      (dss_one (ds_ret (de_call C h_how_many (by decide) (da_cons (de_var 2) (da_cons (de_var 3) (da_cons (de_var 4) da_nil))))))
      dss_nil)
      (dss_cons (ds_if (dt_cmp (op_eqR C) opm_eq (de_var 0) de_int (nomark _))
      (dss_one (ds_ret (de_call C h_number_of (by decide) (da_cons (de_var 2) (da_cons (de_var 3) (da_cons (de_var 4) (da_cons (de_var 5) da_nil)))))))
      dss_nil)
      (dss_cons (ds_if (dt_cmp (op_eqR C) opm_eq (de_var 0) de_int (nomark _))
      (dss_one (ds_ret (de_call C h_row_at (by decide) (da_cons (de_var 2) (da_cons (de_var 3) (da_cons (de_var 4) (da_cons (de_var 6) da_nil)))))))
      dss_nil)
      (dss_cons (ds_if (dt_cmp (op_eqR C) opm_eq (de_var 0) de_int (nomark _))
      (dss_one (ds_ret (de_call C h_may (by decide) (da_cons (de_var 2) (da_cons (de_var 3) (da_cons (de_var 4) (da_cons (de_var 6) da_nil)))))))
      dss_nil)
      (dss_cons (ds_if (dt_cmp (op_eqR C) opm_eq (de_var 0) de_int (nomark _))
      (dss_one (ds_ret (de_call C h_sure (by decide) (da_cons (de_var 2) (da_cons (de_var 3) (da_cons (de_var 4) da_nil))))))
      dss_nil)
      (dss_cons (ds_if (dt_cmp (op_eqR C) opm_eq (de_var 0) de_int (nomark _))
      (dss_one (ds_ret (de_call C h_clash (by decide) (da_cons (de_var 2) (da_cons (de_var 3) (da_cons (de_var 4) da_nil))))))
      dss_nil)
      (dss_cons (ds_if (dt_cmp (op_eqR C) opm_eq (de_var 0) de_int (nomark _))
      (dss_one (ds_ret (de_call C h_is_clash (by decide) (da_cons (de_var 2) (da_cons (de_var 3) (da_cons (de_var 4) (da_cons (de_lst false (da_cons de_int da_nil)) da_nil)))))))
      dss_nil)
      (dss_cons (ds_if (dt_cmp (op_eqR C) opm_eq (de_var 0) de_int (nomark _))
      (dss_one (ds_ret (de_call C h_left_out (by decide) (da_cons (de_var 2) (da_cons (de_var 3) (da_cons (de_var 4) da_nil))))))
      dss_nil)
      (dss_cons (ds_if (dt_cmp (op_eqR C) opm_eq (de_var 0) de_int (nomark _))
      (dss_one (ds_ret (de_call C h_first_row (by decide) (da_cons (de_var 2) (da_cons (de_var 3) (da_cons (de_var 4) da_nil))))))
      dss_nil)
      (dss_cons (ds_if (dt_cmp (op_eqR C) opm_eq (de_var 0) de_int (nomark _))
      (dss_one (ds_ret (de_call C h_mended (by decide) (da_cons (de_var 2) (da_cons (de_var 3) (da_cons (de_var 4) da_nil))))))
      dss_nil)
      (dss_cons (ds_if (dt_cmp (op_eqR C) opm_eq (de_var 0) de_int (nomark _))
      (dss_one (ds_ret (de_call C h_least_cost (by decide) (da_cons (de_var 2) (da_cons (de_var 3) (da_cons (de_var 4) da_nil))))))
      dss_nil)
      (dss_one (ds_ret (de_call C h__law_one_b (by decide) (da_cons (de_var 0) (da_cons (de_var 1) da_nil)))))))))))))))))))))))
theorem ok__law_told {f : Addr} {fd : FuncData} (T : Txt R mg cB) (F : Fun R.K "_law_told" "_law_told" s__law_told f fd) (g : mg "_law_told" = some (.ref f)) (b : Binds R.K fd ["kind", "some"] []) (h__law_one : FnD R P w mg base 6 "_law_one" 2 m__law_one) (h__law_refusal : FnD R P w mg base 1 "_law_refusal" 1 m__law_refusal) : FnD R P w mg base 7 "_law_told" 2 m__law_told :=
  fnD_of (fb := b__law_told) F sc__law_told rfl rfl g b fun cdv A outer s H E C =>
      (dss_cons (ds_set C (i := 2) rfl (.inl rfl) de_non)
      (dss_cons (ds_set C (i := 3) rfl (.inl rfl) de_non)
      (dss_cons (ds_try C (i := 4) (j := 2) rfl rfl rfl rfl rfl rfl rfl (by decide) ⟨rfl, by decide, .inl T.g_BackError⟩ T.x_BackError fun W pn xe C =>
      (dss_one (ds_set C (i := 3) rfl (.inl rfl) (de_call C h__law_one (by decide) (da_cons (de_var 0) (da_cons (de_var 1) da_nil))))))
      (dss_one (ds_ret (de_if (dt_cmp op_isN opm_isN (de_var 2) de_non (nomark _)) (de_tup (da_cons de_str (da_cons (de_var 3) da_nil))) (de_call C h__law_refusal (by decide) (da_cons (de_var 2) da_nil))))))))
theorem ok_law {f : Addr} {fd : FuncData} (T : Txt R mg cB) (F : Fun R.K "law" "law" s_law f fd) (g : mg "law" = some (.ref f)) (b : Binds R.K fd ["script"] []) (h__law_draw : FnD R P w mg base 3 "_law_draw" 3 m__law_draw) (h__law_pick : FnD R P w mg base 4 "_law_pick" 3 m__law_pick) (h__law_told : FnD R P w mg base 7 "_law_told" 2 m__law_told) : FnD R P w mg base 8 "law" 1 m_law :=
  fnD_of (fb := b_law) F sc_law rfl rfl g b fun cdv A outer s H E C =>
      (dss_cons (ds_set C (i := 1) rfl (.inl rfl) (de_lst true da_nil))
      (dss_cons (ds_set C (i := 2) rfl (.inl rfl) (de_add C false de_int (de_call C h__law_draw (by decide) (da_cons (de_var 0) (da_cons (de_var 1) (da_cons de_int da_nil))))))
      (dss_cons (ds_set C (i := 3) rfl (.inl rfl) (de_call C h__law_draw (by decide) (da_cons (de_var 0) (da_cons (de_var 1) (da_cons de_int da_nil)))))
      (dss_cons (ds_set C (i := 4) rfl (.inl rfl) (de_call C h__law_pick (by decide) (da_cons (de_var 0) (da_cons (de_var 1) (da_cons (de_lst false (da_cons (de_tup (da_cons de_int (da_cons (de_var 3) da_nil))) (da_cons (de_tup (da_cons de_int (da_cons (de_var 3) da_nil))) (da_cons (de_tup (da_cons (de_var 2) (da_cons (de_neg de_int) da_nil))) (da_cons (de_tup (da_cons (de_var 2) (da_cons de_int da_nil))) (da_cons (de_tup (da_cons (de_neg de_int) (da_cons de_int da_nil))) da_nil)))))) da_nil)))))
      (dss_cons (ds_set C (i := 5) rfl (.inl rfl) (de_call C h__law_pick (by decide) (da_cons (de_var 0) (da_cons (de_var 1) (da_cons (de_lst false (da_cons (de_tup (da_cons de_str (da_cons de_int (da_cons (de_var 2) (da_cons de_int da_nil))))) (da_cons (de_tup (da_cons de_str (da_cons (de_neg de_int) (da_cons de_int (da_cons de_int da_nil))))) (da_cons (de_tup (da_cons de_str (da_cons de_int (da_cons de_int (da_cons de_int da_nil))))) da_nil)))) da_nil)))))
      (dss_cons (ds_set C (i := 5) rfl (.inl rfl) (de_call C h__law_pick (by decide) (da_cons (de_var 0) (da_cons (de_var 1) (da_cons (de_lst false (da_cons (de_var 5) (da_cons (de_tup (da_cons de_str (da_cons de_int (da_cons de_int (da_cons (de_add C false (de_var 3) de_int) da_nil))))) (da_cons (de_tup (da_cons de_str (da_cons de_int (da_cons de_int (da_cons (de_neg de_int) da_nil))))) da_nil)))) da_nil)))))
      (dss_cons (ds_set C (i := 6) rfl (.inl rfl) (de_tup (da_cons de_str (da_cons de_int (da_cons (de_sub (de_var 2) de_int) (da_cons de_int da_nil))))))
      (dss_cons (ds_set C (i := 7) rfl (.inl rfl) (de_call C h__law_pick (by decide) (da_cons (de_var 0) (da_cons (de_var 1) (da_cons (de_lst false (da_cons (de_lst false (da_cons (de_var 5) da_nil)) (da_cons (de_lst false (da_cons (de_var 6) (da_cons (de_var 5) da_nil))) (da_cons (de_lst false (da_cons (de_var 5) (da_cons (de_var 6) da_nil))) (da_cons (de_mul false (de_lst false (da_cons (de_var 6) da_nil)) de_int) da_nil))))) da_nil)))))
      (dss_cons (ds_set C (i := 8) rfl (.inl rfl) (de_call C h__law_pick (by decide) (da_cons (de_var 0) (da_cons (de_var 1) (da_cons (de_lst false (da_cons (de_lst false da_nil) (da_cons (de_lst false (da_cons de_int da_nil)) (da_cons (de_lst false (da_cons (de_neg de_int) da_nil)) (da_cons (de_mul false (de_lst false (da_cons de_int da_nil)) de_int) da_nil))))) da_nil)))))
      (dss_cons (ds_set C (i := 9) rfl (.inl rfl) (de_call C h__law_pick (by decide) (da_cons (de_var 0) (da_cons (de_var 1) (da_cons (de_lst false (da_cons (de_neg de_int) (da_cons de_int da_nil))) da_nil)))))
      (dss_cons (ds_for C (i := 10) rfl (.inl rfl) (di_range1 T.n_range (da_cons de_int da_nil))
      (dss_cons (ds_if (dt_cmp (op_neR C) opm_ne (de_call C h__law_told (by decide) (da_cons (de_var 10) (da_cons (de_lst false (da_cons (de_ix C (de_var 4) de_int) (da_cons (de_ix C (de_var 4) de_int) (da_cons (de_var 7) (da_cons (de_var 8) (da_cons (de_var 5) (da_cons (de_var 9) da_nil))))))) da_nil))) (de_tup (da_cons de_str (da_cons de_str da_nil))) (nomark _))
      (dss_one (ds_ret de_bl))
      dss_nil)
      (dss_one (ds_if (dt_cmp (op_neR C) opm_ne (de_call C h__law_told (by decide) (da_cons (de_var 10) (da_cons (de_lst false (da_cons (de_var 2) (da_cons (de_var 3) (da_cons (de_var 7) (da_cons (de_var 8) (da_cons (de_var 5) (da_cons (de_var 9) da_nil))))))) da_nil))) (de_tup (da_cons de_str (da_cons de_str da_nil))) (nomark _))
      (dss_one (ds_ret de_bl))
      dss_nil))))
      (dss_cons (ds_set C (i := 11) rfl (.inr rfl) (de_lst false (da_cons (de_var 2) (da_cons (de_var 3) (da_cons (de_lst false (da_cons (de_var 6) da_nil)) (da_cons (de_var 8) (da_cons (de_var 5) (da_cons (de_var 9) da_nil))))))))
      (dss_cons (ds_if (dt_cmp (op_neR C) opm_ne (de_lcN C 10 [("kind", 10)] (di_tup C (de_tup (da_cons de_int (da_cons de_int da_nil)))) (blkOk_by (own := [("kind", 10)]) (N := N_law) (sc := defScope s_law) (by decide +kernel)) (.inl rfl) (fun s H Cc cl fp C => (de_call C h__law_told (by decide) (da_cons (de_var 10) (da_cons (de_var 11) da_nil))))) (de_mul false (de_lst false (da_cons (de_tup (da_cons de_str (da_cons de_str da_nil))) da_nil)) de_int) (nomark _))
      (dss_one (ds_ret de_bl))
      dss_nil)
      (dss_cons (ds_if (dt_cmp (op_neR C) opm_ne (de_lcN C 10 [("kind", 10)] (di_tup C (de_tup (da_cons de_int (da_cons de_int (da_cons de_int (da_cons de_int da_nil)))))) (blkOk_by (own := [("kind", 10)]) (N := N_law) (sc := defScope s_law) (by decide +kernel)) (.inl rfl) (fun s H Cc cl fp C => (de_call C h__law_told (by decide) (da_cons (de_var 10) (da_cons (de_var 11) da_nil))))) (de_mul false (de_lst false (da_cons (de_tup (da_cons de_str (da_cons de_str da_nil))) da_nil)) de_int) (nomark _))
      (dss_one (ds_ret de_bl))
      dss_nil)
      (dss_one (ds_ret (de_cmp (op_eqR C) opm_eq (de_call C h__law_told (by decide) (da_cons de_int (da_cons (de_var 11) da_nil))) (de_tup (da_cons de_str (da_cons de_str da_nil))) (nomark _))))))))))))))))))
end
theorem ok_lawF {R : Rx} {P : Program} {w : World} {mg : Str → Option Value} {base : Heap} {cB : Addr} {f : Addr} {fd : FuncData} (T : Txt R mg cB) (F : Fun R.K "law" "law" s_law f fd) (h__law_draw : FnD R P w mg base 3 "_law_draw" 3 m__law_draw) (h__law_pick : FnD R P w mg base 4 "_law_pick" 3 m__law_pick) (h__law_told : FnD R P w mg base 7 "_law_told" 2 m__law_told) : FnOk P w R.K mg base (L2.CX P w) 8 f fd ["script"] (spD R 1 m_law) :=
  fnOk_of (fb := b_law) F sc_law rfl rfl fun cdv A outer s H E C =>
      (dss_cons (ds_set C (i := 1) rfl (.inl rfl) (de_lst true da_nil))
      (dss_cons (ds_set C (i := 2) rfl (.inl rfl) (de_add C false de_int (de_call C h__law_draw (by decide) (da_cons (de_var 0) (da_cons (de_var 1) (da_cons de_int da_nil))))))
      (dss_cons (ds_set C (i := 3) rfl (.inl rfl) (de_call C h__law_draw (by decide) (da_cons (de_var 0) (da_cons (de_var 1) (da_cons de_int da_nil)))))
      (dss_cons (ds_set C (i := 4) rfl (.inl rfl) (de_call C h__law_pick (by decide) (da_cons (de_var 0) (da_cons (de_var 1) (da_cons (de_lst false (da_cons (de_tup (da_cons de_int (da_cons (de_var 3) da_nil))) (da_cons (de_tup (da_cons de_int (da_cons (de_var 3) da_nil))) (da_cons (de_tup (da_cons (de_var 2) (da_cons (de_neg de_int) da_nil))) (da_cons (de_tup (da_cons (de_var 2) (da_cons de_int da_nil))) (da_cons (de_tup (da_cons (de_neg de_int) (da_cons de_int da_nil))) da_nil)))))) da_nil)))))
      (dss_cons (ds_set C (i := 5) rfl (.inl rfl) (de_call C h__law_pick (by decide) (da_cons (de_var 0) (da_cons (de_var 1) (da_cons (de_lst false (da_cons (de_tup (da_cons de_str (da_cons de_int (da_cons (de_var 2) (da_cons de_int da_nil))))) (da_cons (de_tup (da_cons de_str (da_cons (de_neg de_int) (da_cons de_int (da_cons de_int da_nil))))) (da_cons (de_tup (da_cons de_str (da_cons de_int (da_cons de_int (da_cons de_int da_nil))))) da_nil)))) da_nil)))))
      (dss_cons (ds_set C (i := 5) rfl (.inl rfl) (de_call C h__law_pick (by decide) (da_cons (de_var 0) (da_cons (de_var 1) (da_cons (de_lst false (da_cons (de_var 5) (da_cons (de_tup (da_cons de_str (da_cons de_int (da_cons de_int (da_cons (de_add C false (de_var 3) de_int) da_nil))))) (da_cons (de_tup (da_cons de_str (da_cons de_int (da_cons de_int (da_cons (de_neg de_int) da_nil))))) da_nil)))) da_nil)))))
      (dss_cons (ds_set C (i := 6) rfl (.inl rfl) (de_tup (da_cons de_str (da_cons de_int (da_cons (de_sub (de_var 2) de_int) (da_cons de_int da_nil))))))
      (dss_cons (ds_set C (i := 7) rfl (.inl rfl) (de_call C h__law_pick (by decide) (da_cons (de_var 0) (da_cons (de_var 1) (da_cons (de_lst false (da_cons (de_lst false (da_cons (de_var 5) da_nil)) (da_cons (de_lst false (da_cons (de_var 6) (da_cons (de_var 5) da_nil))) (da_cons (de_lst false (da_cons (de_var 5) (da_cons (de_var 6) da_nil))) (da_cons (de_mul false (de_lst false (da_cons (de_var 6) da_nil)) de_int) da_nil))))) da_nil)))))
      (dss_cons (ds_set C (i := 8) rfl (.inl rfl) (de_call C h__law_pick (by decide) (da_cons (de_var 0) (da_cons (de_var 1) (da_cons (de_lst false (da_cons (de_lst false da_nil) (da_cons (de_lst false (da_cons de_int da_nil)) (da_cons (de_lst false (da_cons (de_neg de_int) da_nil)) (da_cons (de_mul false (de_lst false (da_cons de_int da_nil)) de_int) da_nil))))) da_nil)))))
      (dss_cons (ds_set C (i := 9) rfl (.inl rfl) (de_call C h__law_pick (by decide) (da_cons (de_var 0) (da_cons (de_var 1) (da_cons (de_lst false (da_cons (de_neg de_int) (da_cons de_int da_nil))) da_nil)))))
      (dss_cons (ds_for C (i := 10) rfl (.inl rfl) (di_range1 T.n_range (da_cons de_int da_nil))
      (dss_cons (ds_if (dt_cmp (op_neR C) opm_ne (de_call C h__law_told (by decide) (da_cons (de_var 10) (da_cons (de_lst false (da_cons (de_ix C (de_var 4) de_int) (da_cons (de_ix C (de_var 4) de_int) (da_cons (de_var 7) (da_cons (de_var 8) (da_cons (de_var 5) (da_cons (de_var 9) da_nil))))))) da_nil))) (de_tup (da_cons de_str (da_cons de_str da_nil))) (nomark _))
      (dss_one (ds_ret de_bl))
      dss_nil)
      (dss_one (ds_if (dt_cmp (op_neR C) opm_ne (de_call C h__law_told (by decide) (da_cons (de_var 10) (da_cons (de_lst false (da_cons (de_var 2) (da_cons (de_var 3) (da_cons (de_var 7) (da_cons (de_var 8) (da_cons (de_var 5) (da_cons (de_var 9) da_nil))))))) da_nil))) (de_tup (da_cons de_str (da_cons de_str da_nil))) (nomark _))
      (dss_one (ds_ret de_bl))
      dss_nil))))
      (dss_cons (ds_set C (i := 11) rfl (.inr rfl) (de_lst false (da_cons (de_var 2) (da_cons (de_var 3) (da_cons (de_lst false (da_cons (de_var 6) da_nil)) (da_cons (de_var 8) (da_cons (de_var 5) (da_cons (de_var 9) da_nil))))))))
      (dss_cons (ds_if (dt_cmp (op_neR C) opm_ne (de_lcN C 10 [("kind", 10)] (di_tup C (de_tup (da_cons de_int (da_cons de_int da_nil)))) (blkOk_by (own := [("kind", 10)]) (N := N_law) (sc := defScope s_law) (by decide +kernel)) (.inl rfl) (fun s H Cc cl fp C => (de_call C h__law_told (by decide) (da_cons (de_var 10) (da_cons (de_var 11) da_nil))))) (de_mul false (de_lst false (da_cons (de_tup (da_cons de_str (da_cons de_str da_nil))) da_nil)) de_int) (nomark _))
      (dss_one (ds_ret de_bl))
      dss_nil)
      (dss_cons (ds_if (dt_cmp (op_neR C) opm_ne (de_lcN C 10 [("kind", 10)] (di_tup C (de_tup (da_cons de_int (da_cons de_int (da_cons de_int (da_cons de_int da_nil)))))) (blkOk_by (own := [("kind", 10)]) (N := N_law) (sc := defScope s_law) (by decide +kernel)) (.inl rfl) (fun s H Cc cl fp C => (de_call C h__law_told (by decide) (da_cons (de_var 10) (da_cons (de_var 11) da_nil))))) (de_mul false (de_lst false (da_cons (de_tup (da_cons de_str (da_cons de_str da_nil))) da_nil)) de_int) (nomark _))
      (dss_one (ds_ret de_bl))
      dss_nil)
      (dss_one (ds_ret (de_cmp (op_eqR C) opm_eq (de_call C h__law_told (by decide) (da_cons de_int (da_cons (de_var 11) da_nil))) (de_tup (da_cons de_str (da_cons de_str da_nil))) (nomark _))))))))))))))))))
end K91

set_option maxRecDepth 100000
set_option maxHeartbeats 4000000
namespace WB
open PySem PySem.Spec PyProof.Rows L2
/-! ### evaluation, by equations -/
section
variable {α β : Type}
@[simp] theorem bd_ok (v : α) (st : List Cell) (g : α → List Cell → ER β) : (ER.ok v st).bd g = g v st := rfl
@[simp] theorem bd_rs (c : Nat) (st : List Cell) (g : α → List Cell → ER β) : (ER.rs c st : ER α).bd g = .rs c st := rfl
@[simp] theorem bd_bad (g : α → List Cell → ER β) : (ER.bad : ER α).bd g = .bad := rfl
@[simp] theorem bx_ok (v : α) (st : List Cell) (g : α → List Cell → ER β) : (ER.ok v st).bx g = g v st := rfl
@[simp] theorem sr_ok (v : α) (st : List Cell) (δ : List DV) (g : α → List Cell → SR) : (ER.ok v st).sr δ g = g v st := rfl
@[simp] theorem sr_rs (c : Nat) (st : List Cell) (δ : List DV) (g : α → List Cell → SR) : (ER.rs c st : ER α).sr δ g = .rs c δ st := rfl
end
@[simp] theorem exit_nx (n : Nat) (δ : List DV) (st : List Cell) : exitR n (.nx δ st) = .ok (.dat .none) (st.take n) := rfl
@[simp] theorem exit_rs (n c : Nat) (δ : List DV) (st : List Cell) : exitR n (.rs c δ st) = .rs c (st.take n) := rfl
@[simp] theorem exit_rt (n : Nat) (v : DV) (st : List Cell) : exitR n (.rt v st) = exitV n v st := rfl
@[simp] theorem exitV_dat (n : Nat) (d : PyData) (st : List Cell) : exitV n (.dat d) st = .ok (.dat d) (st.take n) := rfl
@[simp] theorem seq_nx {f g : SF} {δ δ' : List DV} {st st' : List Cell} (h : f δ st = .nx δ' st') : sSeq f g δ st = g δ' st' := by unfold sSeq; rw [h]
theorem seq_rt {f g : SF} {δ : List DV} {st st' : List Cell} {v : DV} (h : f δ st = .rt v st') : sSeq f g δ st = .rt v st' := by unfold sSeq; rw [h]
theorem seq_rs {f g : SF} {δ δ' : List DV} {st st' : List Cell} {c : Nat} (h : f δ st = .rs c δ' st') : sSeq f g δ st = .rs c δ' st' := by unfold sSeq; rw [h]
/-- a comprehension that leaves the store alone -/
theorem lcL_pure {h : PyData → List DV → Option (List DV)} {ft : TF} {fe : EF} {δ : List DV} (p : PyData → Bool) (e : PyData → PyData) {n : Nat} {st : List Cell} (hn : st.length = n) : ∀ (items acc : List PyData),
    (∀ d ∈ items, ∃ δ0, h d δ = some δ0 ∧ (∀ st, ft δ0 st = .ok (p d) st) ∧ (p d = true → ∀ st, fe δ0 st = .ok (.dat (e d)) st)) → acc.length + items.length ≤ 1000000 →
    lcL h ft fe n items acc δ st = .ok (acc ++ (items.filter p).map e) st
  | [], acc, _, _ => by rw [lcL]; simp
  | d :: ds, acc, hd, hl => by
    obtain ⟨δ0, h1, h2, h3⟩ := hd d List.mem_cons_self
    have hl' : acc.length + (ds.length + 1) ≤ 1000000 := hl
    have e1 : (st ++ [Cell.mu acc])[n]? = some (.mu acc) := by rw [← hn, List.getElem?_append_right (Nat.le_refl _), Nat.sub_self]; rfl
    have e2 : (st ++ [Cell.mu acc]).take n = st := by rw [← hn, List.take_left]
    rw [lcL, h1]
    dsimp only
    rw [h2, bd_ok]
    cases hp : p d with
    | true =>
      rw [if_pos rfl, h3 hp, bd_ok, e1]
      dsimp only
      rw [if_pos (by omega), e2, lcL_pure p e hn ds (acc ++ [e d]) (fun x hx => hd x (List.mem_cons_of_mem _ hx)) (by rw [List.length_append]; simp; omega), List.filter_cons_of_pos hp]
      simp
    | false =>
      rw [if_neg Bool.false_ne_true, e1]
      dsimp only
      rw [e2, lcL_pure p e hn ds acc (fun x hx => hd x (List.mem_cons_of_mem _ hx)) (by omega), List.filter_cons_of_neg (by simp [hp])]
theorem dLc_pure {vs : List Nat} {h : PyData → List DV → Option (List DV)} {fi : IF} {ft : TF} {fe : EF} {δ : List DV} {st : List Cell} {items : List PyData} (p : PyData → Bool) (e : PyData → PyData) (hi : fi δ st = .ok items st)
    (hd : ∀ d ∈ items, ∃ δ0, h d (wipeD δ vs) = some δ0 ∧ (∀ st, ft δ0 st = .ok (p d) st) ∧ (p d = true → ∀ st, fe δ0 st = .ok (.dat (e d)) st)) (hl : items.length ≤ 1000000) :
    dLc vs h fi ft fe δ st = .ok (.dat (.list ((items.filter p).map e))) st := by
  unfold dLc
  rw [hi, bd_ok, lcL_pure p e rfl items [] hd (by simpa using hl), bx_ok, List.nil_append]
theorem filter_all {α : Type} (l : List α) : l.filter (fun _ => true) = l := List.filter_eq_self.mpr fun _ _ => rfl
theorem dLc_map {vs : List Nat} {h : PyData → List DV → Option (List DV)} {fi : IF} {fe : EF} {δ : List DV} {st : List Cell} {items : List PyData} (e : PyData → PyData) (hi : fi δ st = .ok items st)
    (hd : ∀ d ∈ items, ∃ δ0, h d (wipeD δ vs) = some δ0 ∧ ∀ st, fe δ0 st = .ok (.dat (e d)) st) (hl : items.length ≤ 1000000) :
    dLc vs h fi tYesF fe δ st = .ok (.dat (.list (items.map e))) st := by
  rw [dLc_pure (fun _ => true) e hi (fun d hx => by obtain ⟨δ0, h1, h2⟩ := hd d hx; exact ⟨δ0, h1, fun _ => rfl, fun _ => h2⟩) hl, filter_all]
@[simp] theorem tk_set (st : List Cell) (t : Nat) (c : Cell) : (st.set t c).take st.length = st.set t c := List.take_of_length_le (by simp)
@[simp] theorem sh_none : SeqAt.shaped .none = true := rfl
@[simp] theorem sh_bool (b : Bool) : SeqAt.shaped (.bool b) = true := rfl
@[simp] theorem sh_int (i : Int) : SeqAt.shaped (.int i) = true := rfl
@[simp] theorem eqv_int (i j : Int) : PyData.eqv (.int i) (.int j) = (i == j) := by rw [PyData.eqv]
@[simp] theorem eqv_bool (i j : Bool) : PyData.eqv (.bool i) (.bool j) = (i == j) := by rw [PyData.eqv]
@[simp] theorem eqv_str (i j : Str) : PyData.eqv (.str i) (.str j) = (i == j) := by rw [PyData.eqv]
/-- data of ints, lists and tuples of such, and written texts: not too deep -/
theorem canLay_ints : ∀ ns : List Int, PyData.canLayAll0 (ns.map PyData.int) = true
  | [] => by simp [PyData.canLayAll0]
  | n :: r => by simp [PyData.canLayAll0, PyData.canLay0, canLay_ints r]
theorem depth_ints : ∀ ns : List Int, PyData.depthAll (ns.map PyData.int) = 0
  | [] => by simp [PyData.depthAll]
  | n :: r => by simp [PyData.depthAll, PyData.depth, depth_ints r]
@[simp] theorem sh_ints (ns : List Int) : SeqAt.shaped (.list (ns.map PyData.int)) = true := by
  simp [SeqAt.shaped, PyData.canLay0, PyData.depth, canLay_ints, depth_ints]
@[simp] theorem eqv_self {d : PyData} (h : SeqAt.shaped d = true) : PyData.eqv d d = true := SeqAt.eqv_refl d (SeqAt.canLay_of_shaped h)
theorem inRg_small {i : Int} (h1 : -1000000 ≤ i) (h2 : i ≤ 1000000) : InRg i := ⟨Int.le_trans (by decide) h1, Int.lt_of_le_of_lt h2 (by decide)⟩
theorem inRg_nat {n : Nat} (h : n ≤ 1000000) : InRg ((n : Nat) : Int) := inRg_small (by omega) (by omega)
abbrev LI (ns : List Int) : PyData := .list (ns.map PyData.int)
/-- a loop by what holds between its turns -/
theorem forL_inv {g : PyData → List DV → Option (List DV)} {f : SF} (Iv : Nat → List DV → List Cell → Prop) : ∀ (items : List PyData) (n : Nat) (δ : List DV) (st : List Cell),
    (∀ (i : Nat) d, items[i]? = some d → ∀ δ st, Iv (n + i) δ st → ∃ δ0 δ' st', g d δ = some δ0 ∧ f δ0 st = .nx δ' st' ∧ Iv (n + i + 1) δ' st') → Iv n δ st → ∃ δ' st', forL g f items δ st = .nx δ' st' ∧ Iv (n + items.length) δ' st'
  | [], n, δ, st, _, h => ⟨δ, st, rfl, h⟩
  | d :: ds, n, δ, st, hs, h => by
    obtain ⟨δ0, δ1, st1, h1, h2, h3⟩ := hs 0 d rfl δ st h
    obtain ⟨δ', st', q1, q2⟩ := forL_inv Iv ds (n + 1) δ1 st1 (fun i d' e δ st hI => by
      have := hs (i + 1) d' (by simpa using e) δ st (by rw [show n + (i + 1) = n + 1 + i by omega]; exact hI)
      rw [show n + (i + 1) + 1 = n + 1 + i + 1 by omega] at this
      exact this) h3
    refine ⟨δ', st', ?_, ?_⟩
    · rw [forL, h1]
      dsimp only
      rw [h2]
      exact q1
    · rw [List.length_cons, show n + (ds.length + 1) = n + 1 + ds.length by omega]
      exact q2
theorem rngD_get {lo : Int} {n i : Nat} {d : PyData} (h : (rngD lo n)[i]? = some d) : i < n ∧ d = .int (lo + (i : Nat)) := by
  have hi : i < n := by
    have := (List.getElem?_eq_some_iff.mp h).1
    rw [rngD_len] at this; exact this
  refine ⟨hi, ?_⟩
  simp only [rngD, List.getElem?_map, List.getElem?_range hi, Option.map_some, Option.some.injEq] at h
  exact h.symm
end WB

set_option maxRecDepth 100000
set_option maxHeartbeats 4000000
namespace PG
open PySem PySem.Spec PyProof.Rows L2 WB
/-! ### draws -/
def tw (n : Nat) : Cell := .mu (List.replicate n (.int 0))
theorem cell_ok (ns : List Int) (k : Int) (st : List Cell) : ∃ v, m__law_cell [.scr ns, .dat (.int k)] st = .ok (.dat (.int v)) st := by
  unfold m__law_cell fnD b__law_cell
  cases ns with
  | nil => exact ⟨0, by simp [sSeq, sIf, sNil, sRet, sRetN, sSet, sExpr, sRaise, sBreak, sCont, sUnp, setAll, dVar, dC, dOp, dT, dB, dChain, dChain3, dAnd, dOr, dNot, dIf, dAndV, dOrV, dNotV, dCB, dCons, dNil, dCall, dMtd, gLen, gMax, gMin, gSum, gAllB, gAnyB, gSorted, gList, gTuple, gInt, gAbs, dAdd, dInt, dInt0, dMul, dNeg, dCmp, dEq, dNe, dIsN, dNotN, dIn, dIx, dSl, oNone, oSome, dLst, dTup, frzAll, frzV, newL, rdL, rdM, rdT, rdD, truD, dTru, mAppend, mInsert, mExtend, mPopAt, mIndex, mCount, dIsI, cMod, cDiv, cPow, cMul, iRange1, iRange2, WB.iList, WB.iTup, iPtr, sTry]⟩
  | cons n r =>
    have hl : (0 : Int) < ((n :: r).length : Int) := by simp
    have h1 : 0 ≤ k % ((n :: r).length : Int) := Int.emod_nonneg _ (by omega)
    have h2 : k % ((n :: r).length : Int) < ((n :: r).length : Int) := Int.emod_lt_of_pos _ hl
    obtain ⟨j, hj⟩ := Int.eq_ofNat_of_zero_le h1
    have hjl : j < (n :: r).length := by omega
    refine ⟨(n :: r)[j], ?_⟩
    have e : atI ((n :: r).map PyData.int) (k % ((n :: r).length : Int)) = some (.int (n :: r)[j]) := by
      rw [hj]
      exact atI_nat (by rw [List.getElem?_map, List.getElem?_eq_getElem hjl]; rfl)
    simp [sSeq, sIf, sNil, sRet, sRetN, sSet, sExpr, sRaise, sBreak, sCont, sUnp, setAll, dVar, dC, dOp, dT, dB, dChain, dChain3, dAnd, dOr, dNot, dIf, dAndV, dOrV, dNotV, dCB, dCons, dNil, dCall, dMtd, gLen, gMax, gMin, gSum, gAllB, gAnyB, gSorted, gList, gTuple, gInt, gAbs, dAdd, dInt, dInt0, dMul, dNeg, dCmp, dEq, dNe, dIsN, dNotN, dIn, dIx, dSl, oNone, oSome, dLst, dTup, frzAll, frzV, newL, rdL, rdM, rdT, rdD, truD, dTru, mAppend, mInsert, mExtend, mPopAt, mIndex, mCount, dIsI, cMod, cDiv, cPow, cMul, iRange1, iRange2, WB.iList, WB.iTup, iPtr, sTry] at e ⊢
    rw [e]
    simp
theorem mod_lt32 {x m : Int} (h : 0 < m) : 0 ≤ x % m ∧ x % m < m := ⟨Int.emod_nonneg _ (by omega), Int.emod_lt_of_pos _ h⟩
theorem mix_ok (ns : List Int) (k : Int) (st : List Cell) : ∃ v, m__law_mix [.scr ns, .dat (.int k)] st = .ok (.dat (.int v)) st ∧ 0 ≤ v := by
  obtain ⟨c, hc⟩ := cell_ok ns k st
  unfold m__law_mix fnD b__law_mix
  have a1 := mod_lt32 (x := c + 104729 * (k + 1)) (m := 4294967291) (by decide)
  generalize hx : (c + 104729 * (k + 1)) % 4294967291 = x at a1
  have a2 := mod_lt32 (x := x ^ 5) (m := 4294967279) (by decide)
  generalize hy : x ^ 5 % 4294967279 = y at a2
  have a3 := mod_lt32 (x := y / 64 * 69621 + y) (m := 4294967231) (by decide)
  have a4 : y / 64 < 2 ^ 64 ∧ -(2 ^ 64) < y / 64 := by omega
  have a5 : x.natAbs < 18446744073709551616 := by omega
  refine ⟨(y / 64 * 69621 + y) % 4294967231, ?_, a3.1⟩
  simp [sSeq, sIf, sNil, sRet, sRetN, sSet, sExpr, sRaise, sBreak, sCont, sUnp, setAll, dVar, dC, dOp, dT, dB, dChain, dChain3, dAnd, dOr, dNot, dIf, dAndV, dOrV, dNotV, dCB, dCons, dNil, dCall, dMtd, gLen, gMax, gMin, gSum, gAllB, gAnyB, gSorted, gList, gTuple, gInt, gAbs, dAdd, dInt, dInt0, dMul, dNeg, dCmp, dEq, dNe, dIsN, dNotN, dIn, dIx, dSl, oNone, oSome, dLst, dTup, frzAll, frzV, newL, rdL, rdM, rdT, rdD, truD, dTru, mAppend, mInsert, mExtend, mPopAt, mIndex, mCount, dIsI, cMod, cDiv, cPow, cMul, iRange1, iRange2, WB.iList, WB.iTup, iPtr, sTry, hc, hx, hy]
  simp [sSeq, sIf, sNil, sRet, sRetN, sSet, sExpr, sRaise, sBreak, sCont, sUnp, setAll, dVar, dC, dOp, dT, dB, dChain, dChain3, dAnd, dOr, dNot, dIf, dAndV, dOrV, dNotV, dCB, dCons, dNil, dCall, dMtd, gLen, gMax, gMin, gSum, gAllB, gAnyB, gSorted, gList, gTuple, gInt, gAbs, dAdd, dInt, dInt0, dMul, dNeg, dCmp, dEq, dNe, dIsN, dNotN, dIn, dIx, dSl, oNone, oSome, dLst, dTup, frzAll, frzV, newL, rdL, rdM, rdT, rdD, truD, dTru, mAppend, mInsert, mExtend, mPopAt, mIndex, mCount, dIsI, cMod, cDiv, cPow, cMul, iRange1, iRange2, WB.iList, WB.iTup, iPtr, sTry, a5, hy]
theorem draw_ok (ns : List Int) (t n : Nat) (many : Int) (st : List Cell) (hm : 0 < many) (ht : st[t]? = some (tw n)) (hn : n < 100000) : ∃ v, m__law_draw [.scr ns, .ptr t, .dat (.int many)] st = .ok (.dat (.int v)) (st.set t (tw (n + 1))) ∧ 0 ≤ v ∧ v < many := by
  have hlt : t < st.length := (List.getElem?_eq_some_iff.mp ht).1
  obtain ⟨c, hc, c0⟩ := mix_ok ns ((n : Int) + 1) (st.set t (tw (n + 1)))
  have a := mod_lt32 (x := c / 8) hm
  refine ⟨c / 8 % many, ?_, a⟩
  have e : List.replicate n (PyData.int 0) ++ [PyData.int 0] = List.replicate (n + 1) (PyData.int 0) := by rw [List.replicate_succ']
  have e2 : (st.set t (tw (n + 1)))[t]? = some (tw (n + 1)) := List.getElem?_set_self hlt
  unfold m__law_draw fnD b__law_draw
  unfold tw at *
  have hz : n < 1000000 := by omega
  clear hlt
  simp [sSeq, sIf, sNil, sRet, sRetN, sSet, sExpr, sRaise, sBreak, sCont, sUnp, setAll, dVar, dC, dOp, dT, dB, dChain, dChain3, dAnd, dOr, dNot, dIf, dAndV, dOrV, dNotV, dCB, dCons, dNil, dCall, dMtd, gLen, gMax, gMin, gSum, gAllB, gAnyB, gSorted, gList, gTuple, gInt, gAbs, dAdd, dInt, dInt0, dMul, dNeg, dCmp, dEq, dNe, dIsN, dNotN, dIn, dIx, dSl, oNone, oSome, dLst, dTup, frzAll, frzV, newL, rdL, rdM, rdT, rdD, truD, dTru, mAppend, mInsert, mExtend, mPopAt, mIndex, mCount, dIsI, cMod, cDiv, cPow, cMul, iRange1, iRange2, WB.iList, WB.iTup, iPtr, sTry, ht, e, hz, e2, hc, hm]
/-- a draw out of a list -/
theorem pick_ok (ns : List Int) (t n : Nat) (xs : List PyData) (st : List Cell) (hx : xs ≠ []) (ht : st[t]? = some (tw n)) (hn : n < 100000) : ∃ x ∈ xs, m__law_pick [.scr ns, .ptr t, .dat (.list xs)] st = .ok (.dat x) (st.set t (tw (n + 1))) := by
  have hl : 0 < xs.length := List.length_pos_iff.mpr hx
  obtain ⟨v, hv, v0, v1⟩ := draw_ok ns t n (xs.length : Int) st (by omega) ht hn
  obtain ⟨j, hj⟩ := Int.eq_ofNat_of_zero_le v0
  have hjl : j < xs.length := by omega
  have e : atI xs v = some xs[j] := by rw [hj]; exact atI_nat (List.getElem?_eq_getElem hjl)
  refine ⟨xs[j], List.getElem_mem _, ?_⟩
  unfold m__law_pick fnD b__law_pick
  simp [sSeq, sIf, sNil, sRet, sRetN, sSet, sExpr, sRaise, sBreak, sCont, sUnp, setAll, dVar, dC, dOp, dT, dB, dChain, dChain3, dAnd, dOr, dNot, dIf, dAndV, dOrV, dNotV, dCB, dCons, dNil, dCall, dMtd, gLen, gMax, gMin, gSum, gAllB, gAnyB, gSorted, gList, gTuple, gInt, gAbs, dAdd, dInt, dInt0, dMul, dNeg, dCmp, dEq, dNe, dIsN, dNotN, dIn, dIx, dSl, oNone, oSome, dLst, dTup, frzAll, frzV, newL, rdL, rdM, rdT, rdD, truD, dTru, mAppend, mInsert, mExtend, mPopAt, mIndex, mCount, dIsI, cMod, cDiv, cPow, cMul, iRange1, iRange2, WB.iList, WB.iTup, iPtr, sTry, hv, e]
/-! ### the refusals -/
theorem refusal_ok (c : Nat) (w : Str) (hw : (c, w) ∈ [(0, ("row" : Str)), (1, "stretch"), (2, "size"), (3, "told"), (4, "no row"), (5, "number"), (6, "text")]) (st : List Cell) : m__law_refusal [.ex c] st = .ok (.dat (.tuple [.str "refused", .str w])) st := by
  unfold m__law_refusal fnD b__law_refusal
  simp only [List.mem_cons, Prod.mk.injEq, List.mem_nil_iff, or_false] at hw
  rcases hw with ⟨rfl, rfl⟩ | ⟨rfl, rfl⟩ | ⟨rfl, rfl⟩ | ⟨rfl, rfl⟩ | ⟨rfl, rfl⟩ | ⟨rfl, rfl⟩ | ⟨rfl, rfl⟩ <;> simp [sSeq, sIf, sNil, sRet, sRetN, sSet, sExpr, sRaise, sBreak, sCont, sUnp, setAll, dVar, dC, dOp, dT, dB, dChain, dChain3, dAnd, dOr, dNot, dIf, dAndV, dOrV, dNotV, dCB, dCons, dNil, dCall, dMtd, gLen, gMax, gMin, gSum, gAllB, gAnyB, gSorted, gList, gTuple, gInt, gAbs, dAdd, dInt, dInt0, dMul, dNeg, dCmp, dEq, dNe, dIsN, dNotN, dIn, dIx, dSl, oNone, oSome, dLst, dTup, frzAll, frzV, newL, rdL, rdM, rdT, rdD, truD, dTru, mAppend, mInsert, mExtend, mPopAt, mIndex, mCount, dIsI, cMod, cDiv, cPow, cMul, iRange1, iRange2, WB.iList, WB.iTup, iPtr, sTry, flatD, is_BadRow, is_BadStretch, is_BadSize, is_BadTold, is_NoRow, is_BadNumber, is_BadText, is_ValueError, cnum, vOf, eqV, ixOf, atI, ixN]

end PG

set_option maxRecDepth 100000
set_option maxHeartbeats 4000000
namespace PG
open PySem PySem.Spec PyProof.Rows WB
open L2 (atI ixN atI_nat)
/-! ### rows -/
def wB (v : Int) : Bool := decide (0 ≤ v) && decide (v ≤ 9)
def rowB (rs : List Int) : Bool := (decide ((1 : Int) ≤ rs.length) && decide ((rs.length : Int) ≤ 8)) && (rs.map wB).all id
theorem lc_look_row (rs : List Int) (st : List Cell) (hl : rs.length ≤ 1000000) : lc1_look_row [.dat (LI rs), .un] st = .ok (.dat (.list (rs.map fun v => .bool (wB v)))) st := by
  unfold lc1_look_row
  rw [dLc_map (items := rs.map PyData.int) (fun d => match d with | .int v => .bool (wB v) | _ => .none) (by simp [sSeq, sIf, sNil, sRet, sRetN, sSet, sExpr, sRaise, sBreak, sCont, sUnp, setAll, dVar, dC, dOp, dT, dB, dChain, dChain3, dAnd, dOr, dNot, dIf, dAndV, dOrV, dNotV, dCB, dCons, dNil, dCall, dMtd, gLen, gMax, gMin, gSum, gAllB, gAnyB, gSorted, gList, gTuple, gInt, gAbs, dAdd, dInt, dInt0, dMul, dNeg, dCmp, dEq, dNe, dIsN, dNotN, dIn, dIx, dSl, oNone, oSome, dLst, dTup, frzAll, frzV, newL, rdL, rdM, rdT, rdD, truD, dTru, mAppend, mInsert, mExtend, mPopAt, mIndex, mCount, dIsI, cMod, cDiv, cPow, cMul, iRange1, iRange2, WB.iList, WB.iTup, iPtr, sTry]) (fun d hd => ?_) (by simpa using hl)]
  · simp [Function.comp_def]
  · obtain ⟨v, _, rfl⟩ := List.mem_map.mp hd
    refine ⟨[.dat (LI rs), .dat (.int v)], rfl, fun st => ?_⟩
    unfold lc1_look_row_e wB
    by_cases h : 0 ≤ v
    · simp [sSeq, sIf, sNil, sRet, sRetN, sSet, sExpr, sRaise, sBreak, sCont, sUnp, setAll, dVar, dC, dOp, dT, dB, dChain, dChain3, dAnd, dOr, dNot, dIf, dAndV, dOrV, dNotV, dCB, dCons, dNil, dCall, dMtd, gLen, gMax, gMin, gSum, gAllB, gAnyB, gSorted, gList, gTuple, gInt, gAbs, dAdd, dInt, dInt0, dMul, dNeg, dCmp, dEq, dNe, dIsN, dNotN, dIn, dIx, dSl, oNone, oSome, dLst, dTup, frzAll, frzV, newL, rdL, rdM, rdT, rdD, truD, dTru, mAppend, mInsert, mExtend, mPopAt, mIndex, mCount, dIsI, cMod, cDiv, cPow, cMul, iRange1, iRange2, WB.iList, WB.iTup, iPtr, sTry, h]
    · simp [sSeq, sIf, sNil, sRet, sRetN, sSet, sExpr, sRaise, sBreak, sCont, sUnp, setAll, dVar, dC, dOp, dT, dB, dChain, dChain3, dAnd, dOr, dNot, dIf, dAndV, dOrV, dNotV, dCB, dCons, dNil, dCall, dMtd, gLen, gMax, gMin, gSum, gAllB, gAnyB, gSorted, gList, gTuple, gInt, gAbs, dAdd, dInt, dInt0, dMul, dNeg, dCmp, dEq, dNe, dIsN, dNotN, dIn, dIx, dSl, oNone, oSome, dLst, dTup, frzAll, frzV, newL, rdL, rdM, rdT, rdD, truD, dTru, mAppend, mInsert, mExtend, mPopAt, mIndex, mCount, dIsI, cMod, cDiv, cPow, cMul, iRange1, iRange2, WB.iList, WB.iTup, iPtr, sTry, h]
theorem look_row_eq (rs : List Int) (st : List Cell) (hl : rs.length ≤ 1000000) : m_look_row [.dat (LI rs)] st = if rowB rs = true then .ok (.dat .none) st else .rs 0 st := by
  have hc := lc_look_row rs st hl
  have e1 : asBools (rs.map fun v => PyData.bool (wB v)) = some (rs.map wB) := by
    have := asBools_map (rs.map wB)
    rw [List.map_map] at this
    exact this
  unfold m_look_row fnD b_look_row rowB
  by_cases h1 : (1 : Int) ≤ rs.length
  · by_cases h2 : (rs.length : Int) ≤ 8
    · generalize hb : (rs.map wB).all id = b
      cases b
      · simp only [sSeq, sIf, sNil, sRet, sRetN, sSet, sExpr, sRaise, sBreak, sCont, sUnp, setAll, dVar, dC, dOp, dT, dB, dChain, dChain3, dAnd, dOr, dNot, dIf, dAndV, dOrV, dNotV, dCB, dCons, dNil, dCall, dMtd, gLen, gMax, gMin, gSum, gAllB, gAnyB, gSorted, gList, gTuple, gInt, gAbs, dAdd, dInt, dInt0, dMul, dNeg, dCmp, dEq, dNe, dIsN, dNotN, dIn, dIx, dSl, oNone, oSome, dLst, dTup, frzAll, frzV, newL, rdL, rdM, rdT, rdD, truD, dTru, mAppend, mInsert, mExtend, mPopAt, mIndex, mCount, dIsI, cMod, cDiv, cPow, cMul, iRange1, iRange2, WB.iList, WB.iTup, iPtr, sTry, hc, e1, h1, h2, hb]
        simp [sSeq, sIf, sNil, sRet, sRetN, sSet, sExpr, sRaise, sBreak, sCont, sUnp, setAll, dVar, dC, dOp, dT, dB, dChain, dChain3, dAnd, dOr, dNot, dIf, dAndV, dOrV, dNotV, dCB, dCons, dNil, dCall, dMtd, gLen, gMax, gMin, gSum, gAllB, gAnyB, gSorted, gList, gTuple, gInt, gAbs, dAdd, dInt, dInt0, dMul, dNeg, dCmp, dEq, dNe, dIsN, dNotN, dIn, dIx, dSl, oNone, oSome, dLst, dTup, frzAll, frzV, newL, rdL, rdM, rdT, rdD, truD, dTru, mAppend, mInsert, mExtend, mPopAt, mIndex, mCount, dIsI, cMod, cDiv, cPow, cMul, iRange1, iRange2, WB.iList, WB.iTup, iPtr, sTry, hc, e1, h1, h2, hb]
      · simp [sSeq, sIf, sNil, sRet, sRetN, sSet, sExpr, sRaise, sBreak, sCont, sUnp, setAll, dVar, dC, dOp, dT, dB, dChain, dChain3, dAnd, dOr, dNot, dIf, dAndV, dOrV, dNotV, dCB, dCons, dNil, dCall, dMtd, gLen, gMax, gMin, gSum, gAllB, gAnyB, gSorted, gList, gTuple, gInt, gAbs, dAdd, dInt, dInt0, dMul, dNeg, dCmp, dEq, dNe, dIsN, dNotN, dIn, dIx, dSl, oNone, oSome, dLst, dTup, frzAll, frzV, newL, rdL, rdM, rdT, rdD, truD, dTru, mAppend, mInsert, mExtend, mPopAt, mIndex, mCount, dIsI, cMod, cDiv, cPow, cMul, iRange1, iRange2, WB.iList, WB.iTup, iPtr, sTry, hc, e1, h1, h2, hb]
    · simp [sSeq, sIf, sNil, sRet, sRetN, sSet, sExpr, sRaise, sBreak, sCont, sUnp, setAll, dVar, dC, dOp, dT, dB, dChain, dChain3, dAnd, dOr, dNot, dIf, dAndV, dOrV, dNotV, dCB, dCons, dNil, dCall, dMtd, gLen, gMax, gMin, gSum, gAllB, gAnyB, gSorted, gList, gTuple, gInt, gAbs, dAdd, dInt, dInt0, dMul, dNeg, dCmp, dEq, dNe, dIsN, dNotN, dIn, dIx, dSl, oNone, oSome, dLst, dTup, frzAll, frzV, newL, rdL, rdM, rdT, rdD, truD, dTru, mAppend, mInsert, mExtend, mPopAt, mIndex, mCount, dIsI, cMod, cDiv, cPow, cMul, iRange1, iRange2, WB.iList, WB.iTup, iPtr, sTry, hc, e1, h1, h2]
  · simp [sSeq, sIf, sNil, sRet, sRetN, sSet, sExpr, sRaise, sBreak, sCont, sUnp, setAll, dVar, dC, dOp, dT, dB, dChain, dChain3, dAnd, dOr, dNot, dIf, dAndV, dOrV, dNotV, dCB, dCons, dNil, dCall, dMtd, gLen, gMax, gMin, gSum, gAllB, gAnyB, gSorted, gList, gTuple, gInt, gAbs, dAdd, dInt, dInt0, dMul, dNeg, dCmp, dEq, dNe, dIsN, dNotN, dIn, dIx, dSl, oNone, oSome, dLst, dTup, frzAll, frzV, newL, rdL, rdM, rdT, rdD, truD, dTru, mAppend, mInsert, mExtend, mPopAt, mIndex, mCount, dIsI, cMod, cDiv, cPow, cMul, iRange1, iRange2, WB.iList, WB.iTup, iPtr, sTry, hc, e1, h1]
theorem look_stretch_eq (rs : List Int) (a b : Int) (st : List Cell) (hl : rs.length ≤ 1000000) : m_look_stretch [.dat (LI rs), .dat (.int a), .dat (.int b)] st =
    if rowB rs = true then (if (decide (0 ≤ a) && (decide (a ≤ b) && decide (b < rs.length))) = true then .ok (.dat .none) st else .rs 1 st) else .rs 0 st := by
  have hr := look_row_eq rs st hl
  unfold m_look_stretch fnD b_look_stretch
  cases h : rowB rs with
  | false => simp [sSeq, sIf, sNil, sRet, sRetN, sSet, sExpr, sRaise, sBreak, sCont, sUnp, setAll, dVar, dC, dOp, dT, dB, dChain, dChain3, dAnd, dOr, dNot, dIf, dAndV, dOrV, dNotV, dCB, dCons, dNil, dCall, dMtd, gLen, gMax, gMin, gSum, gAllB, gAnyB, gSorted, gList, gTuple, gInt, gAbs, dAdd, dInt, dInt0, dMul, dNeg, dCmp, dEq, dNe, dIsN, dNotN, dIn, dIx, dSl, oNone, oSome, dLst, dTup, frzAll, frzV, newL, rdL, rdM, rdT, rdD, truD, dTru, mAppend, mInsert, mExtend, mPopAt, mIndex, mCount, dIsI, cMod, cDiv, cPow, cMul, iRange1, iRange2, WB.iList, WB.iTup, iPtr, sTry, hr, h]
  | true =>
    by_cases h1 : 0 ≤ a
    · by_cases h2 : a ≤ b
      · by_cases h3 : b < rs.length
        · simp [sSeq, sIf, sNil, sRet, sRetN, sSet, sExpr, sRaise, sBreak, sCont, sUnp, setAll, dVar, dC, dOp, dT, dB, dChain, dChain3, dAnd, dOr, dNot, dIf, dAndV, dOrV, dNotV, dCB, dCons, dNil, dCall, dMtd, gLen, gMax, gMin, gSum, gAllB, gAnyB, gSorted, gList, gTuple, gInt, gAbs, dAdd, dInt, dInt0, dMul, dNeg, dCmp, dEq, dNe, dIsN, dNotN, dIn, dIx, dSl, oNone, oSome, dLst, dTup, frzAll, frzV, newL, rdL, rdM, rdT, rdD, truD, dTru, mAppend, mInsert, mExtend, mPopAt, mIndex, mCount, dIsI, cMod, cDiv, cPow, cMul, iRange1, iRange2, WB.iList, WB.iTup, iPtr, sTry, hr, h, h1, h2, h3]
        · simp [sSeq, sIf, sNil, sRet, sRetN, sSet, sExpr, sRaise, sBreak, sCont, sUnp, setAll, dVar, dC, dOp, dT, dB, dChain, dChain3, dAnd, dOr, dNot, dIf, dAndV, dOrV, dNotV, dCB, dCons, dNil, dCall, dMtd, gLen, gMax, gMin, gSum, gAllB, gAnyB, gSorted, gList, gTuple, gInt, gAbs, dAdd, dInt, dInt0, dMul, dNeg, dCmp, dEq, dNe, dIsN, dNotN, dIn, dIx, dSl, oNone, oSome, dLst, dTup, frzAll, frzV, newL, rdL, rdM, rdT, rdD, truD, dTru, mAppend, mInsert, mExtend, mPopAt, mIndex, mCount, dIsI, cMod, cDiv, cPow, cMul, iRange1, iRange2, WB.iList, WB.iTup, iPtr, sTry, hr, h, h1, h2, h3]
      · simp [sSeq, sIf, sNil, sRet, sRetN, sSet, sExpr, sRaise, sBreak, sCont, sUnp, setAll, dVar, dC, dOp, dT, dB, dChain, dChain3, dAnd, dOr, dNot, dIf, dAndV, dOrV, dNotV, dCB, dCons, dNil, dCall, dMtd, gLen, gMax, gMin, gSum, gAllB, gAnyB, gSorted, gList, gTuple, gInt, gAbs, dAdd, dInt, dInt0, dMul, dNeg, dCmp, dEq, dNe, dIsN, dNotN, dIn, dIx, dSl, oNone, oSome, dLst, dTup, frzAll, frzV, newL, rdL, rdM, rdT, rdD, truD, dTru, mAppend, mInsert, mExtend, mPopAt, mIndex, mCount, dIsI, cMod, cDiv, cPow, cMul, iRange1, iRange2, WB.iList, WB.iTup, iPtr, sTry, hr, h, h1, h2]
    · simp [sSeq, sIf, sNil, sRet, sRetN, sSet, sExpr, sRaise, sBreak, sCont, sUnp, setAll, dVar, dC, dOp, dT, dB, dChain, dChain3, dAnd, dOr, dNot, dIf, dAndV, dOrV, dNotV, dCB, dCons, dNil, dCall, dMtd, gLen, gMax, gMin, gSum, gAllB, gAnyB, gSorted, gList, gTuple, gInt, gAbs, dAdd, dInt, dInt0, dMul, dNeg, dCmp, dEq, dNe, dIsN, dNotN, dIn, dIx, dSl, oNone, oSome, dLst, dTup, frzAll, frzV, newL, rdL, rdM, rdT, rdD, truD, dTru, mAppend, mInsert, mExtend, mPopAt, mIndex, mCount, dIsI, cMod, cDiv, cPow, cMul, iRange1, iRange2, WB.iList, WB.iTup, iPtr, sTry, hr, h, h1]
/-! ### slices -/
def cutI (xs : List Int) (lo hi : Option Int) : List Int := (xs.drop (HT.sIx xs.length 0 lo)).take (HT.sIx xs.length xs.length hi - HT.sIx xs.length 0 lo)
theorem cutD_ints (xs : List Int) (lo hi : Option Int) : WB.cutD (xs.map PyData.int) lo hi = (cutI xs lo hi).map PyData.int := by
  unfold WB.cutD cutI
  rw [List.length_map, List.map_take, List.map_drop]
theorem cutI_len (xs : List Int) (lo hi : Option Int) : (cutI xs lo hi).length ≤ xs.length := by
  unfold cutI
  rw [List.length_take, List.length_drop]
  omega
theorem cutI_ne {xs : List Int} {a b : Int} (h0 : 0 ≤ a) (h1 : a < b) (h2 : a < xs.length) : cutI xs (some a) (some b) ≠ [] := by
  obtain ⟨i, rfl⟩ := Int.eq_ofNat_of_zero_le h0
  obtain ⟨j, rfl⟩ := Int.eq_ofNat_of_zero_le (show (0 : Int) ≤ b by omega)
  unfold cutI
  rw [HT.sIx_nat, HT.sIx_nat]
  intro e
  have := congrArg List.length e
  rw [List.length_take, List.length_drop, List.length_nil] at this
  omega
theorem asInts_cons {n : Int} {r : List Int} : asInts (PyData.int n :: r.map PyData.int) = some (n :: r) := asInts_map (n :: r)
theorem max_cut {xs : List Int} {st : List Cell} (h : xs ≠ []) : gMax [.dat (LI xs)] st = .ok (.dat (.int (mxI xs))) st := by
  cases xs with
  | nil => exact absurd rfl h
  | cons n r => simp [gMax, rdL, asInts_cons]
theorem min_cut {xs : List Int} {st : List Cell} (h : xs ≠ []) : gMin [.dat (LI xs)] st = .ok (.dat (.int (mnI xs))) st := by
  cases xs with
  | nil => exact absurd rfl h
  | cons n r => simp [gMin, rdL, asInts_cons]
def strB (rs : List Int) (a b : Int) : Bool := decide (0 ≤ a) && (decide (a ≤ b) && decide (b < rs.length))
theorem strB_of {rs : List Int} {a b : Int} (h : strB rs a b = true) : 0 ≤ a ∧ a ≤ b ∧ b < rs.length := by
  unfold strB at h
  simpa only [Bool.and_eq_true, decide_eq_true_eq] using h
theorem look_stretch_eq' (rs : List Int) (a b : Int) (st : List Cell) (hl : rs.length ≤ 1000000) : m_look_stretch [.dat (LI rs), .dat (.int a), .dat (.int b)] st =
    if rowB rs = true then (if strB rs a b = true then .ok (.dat .none) st else .rs 1 st) else .rs 0 st := look_stretch_eq rs a b st hl
theorem greatest_eq (rs : List Int) (a b : Int) (st : List Cell) (hl : rs.length ≤ 1000000) : m_greatest [.dat (LI rs), .dat (.int a), .dat (.int b)] st =
    if rowB rs = true then (if strB rs a b = true then .ok (.dat (.int (mxI (cutI rs (some a) (some (b + 1)))))) st else .rs 1 st) else .rs 0 st := by
  have hr := look_stretch_eq' rs a b st hl
  unfold m_greatest fnD b_greatest
  cases h : rowB rs with
  | false => simp [sSeq, sIf, sNil, sRet, sRetN, sSet, sExpr, sRaise, sBreak, sCont, sUnp, setAll, dVar, dC, dOp, dT, dB, dChain, dChain3, dAnd, dOr, dNot, dIf, dAndV, dOrV, dNotV, dCB, dCons, dNil, dCall, dMtd, gLen, gMax, gMin, gSum, gAllB, gAnyB, gSorted, gList, gTuple, gInt, gAbs, dAdd, dInt, dInt0, dMul, dNeg, dCmp, dEq, dNe, dIsN, dNotN, dIn, dIx, dSl, oNone, oSome, dLst, dTup, frzAll, frzV, newL, rdL, rdM, rdT, rdD, truD, dTru, mAppend, mInsert, mExtend, mPopAt, mIndex, mCount, dIsI, cMod, cDiv, cPow, cMul, iRange1, iRange2, WB.iList, WB.iTup, iPtr, sTry, hr, h]
  | true =>
    cases h1 : strB rs a b with
    | false => simp [sSeq, sIf, sNil, sRet, sRetN, sSet, sExpr, sRaise, sBreak, sCont, sUnp, setAll, dVar, dC, dOp, dT, dB, dChain, dChain3, dAnd, dOr, dNot, dIf, dAndV, dOrV, dNotV, dCB, dCons, dNil, dCall, dMtd, gLen, gMax, gMin, gSum, gAllB, gAnyB, gSorted, gList, gTuple, gInt, gAbs, dAdd, dInt, dInt0, dMul, dNeg, dCmp, dEq, dNe, dIsN, dNotN, dIn, dIx, dSl, oNone, oSome, dLst, dTup, frzAll, frzV, newL, rdL, rdM, rdT, rdD, truD, dTru, mAppend, mInsert, mExtend, mPopAt, mIndex, mCount, dIsI, cMod, cDiv, cPow, cMul, iRange1, iRange2, WB.iList, WB.iTup, iPtr, sTry, hr, h, h1]
    | true =>
      obtain ⟨q1, q2, q3⟩ := strB_of h1
      have hc := max_cut (st := st) (cutI_ne (xs := rs) (a := a) (b := b + 1) q1 (by omega) (by omega))
      simp only [dCB, dCons, dSl, sSeq, sExpr, dCall, sRet, dVar, dNil, oSome, dOp, dC, dAdd, newL, rdL, List.getElem?_cons_zero, List.getElem?_cons_succ, bd_ok, hr, h, h1]
      simp [hr, h, h1, cutD_ints, hc]
theorem least_eq (rs : List Int) (a b : Int) (st : List Cell) (hl : rs.length ≤ 1000000) : m_least [.dat (LI rs), .dat (.int a), .dat (.int b)] st =
    if rowB rs = true then (if strB rs a b = true then .ok (.dat (.int (mnI (cutI rs (some a) (some (b + 1)))))) st else .rs 1 st) else .rs 0 st := by
  have hr := look_stretch_eq' rs a b st hl
  unfold m_least fnD b_least
  cases h : rowB rs with
  | false => simp [sSeq, sIf, sNil, sRet, sRetN, sSet, sExpr, sRaise, sBreak, sCont, sUnp, setAll, dVar, dC, dOp, dT, dB, dChain, dChain3, dAnd, dOr, dNot, dIf, dAndV, dOrV, dNotV, dCB, dCons, dNil, dCall, dMtd, gLen, gMax, gMin, gSum, gAllB, gAnyB, gSorted, gList, gTuple, gInt, gAbs, dAdd, dInt, dInt0, dMul, dNeg, dCmp, dEq, dNe, dIsN, dNotN, dIn, dIx, dSl, oNone, oSome, dLst, dTup, frzAll, frzV, newL, rdL, rdM, rdT, rdD, truD, dTru, mAppend, mInsert, mExtend, mPopAt, mIndex, mCount, dIsI, cMod, cDiv, cPow, cMul, iRange1, iRange2, WB.iList, WB.iTup, iPtr, sTry, hr, h]
  | true =>
    cases h1 : strB rs a b with
    | false => simp [sSeq, sIf, sNil, sRet, sRetN, sSet, sExpr, sRaise, sBreak, sCont, sUnp, setAll, dVar, dC, dOp, dT, dB, dChain, dChain3, dAnd, dOr, dNot, dIf, dAndV, dOrV, dNotV, dCB, dCons, dNil, dCall, dMtd, gLen, gMax, gMin, gSum, gAllB, gAnyB, gSorted, gList, gTuple, gInt, gAbs, dAdd, dInt, dInt0, dMul, dNeg, dCmp, dEq, dNe, dIsN, dNotN, dIn, dIx, dSl, oNone, oSome, dLst, dTup, frzAll, frzV, newL, rdL, rdM, rdT, rdD, truD, dTru, mAppend, mInsert, mExtend, mPopAt, mIndex, mCount, dIsI, cMod, cDiv, cPow, cMul, iRange1, iRange2, WB.iList, WB.iTup, iPtr, sTry, hr, h, h1]
    | true =>
      obtain ⟨q1, q2, q3⟩ := strB_of h1
      have hc := min_cut (st := st) (cutI_ne (xs := rs) (a := a) (b := b + 1) q1 (by omega) (by omega))
      simp only [dCB, dCons, dSl, sSeq, sExpr, dCall, sRet, dVar, dNil, oSome, dOp, dC, dAdd, newL, rdL, List.getElem?_cons_zero, List.getElem?_cons_succ, bd_ok, hr, h, h1]
      simp [hr, h, h1, cutD_ints, hc]
def widB (rs : List Int) (w : Int) : Bool := decide (1 ≤ w) && decide (w ≤ rs.length)
theorem look_width_eq (rs : List Int) (w : Int) (st : List Cell) (hl : rs.length ≤ 1000000) : m_look_width [.dat (LI rs), .dat (.int w)] st =
    if rowB rs = true then (if widB rs w = true then .ok (.dat .none) st else .rs 1 st) else .rs 0 st := by
  have hr := look_row_eq rs st hl
  unfold m_look_width fnD b_look_width widB
  cases h : rowB rs with
  | false => simp [sSeq, sIf, sNil, sRet, sRetN, sSet, sExpr, sRaise, sBreak, sCont, sUnp, setAll, dVar, dC, dOp, dT, dB, dChain, dChain3, dAnd, dOr, dNot, dIf, dAndV, dOrV, dNotV, dCB, dCons, dNil, dCall, dMtd, gLen, gMax, gMin, gSum, gAllB, gAnyB, gSorted, gList, gTuple, gInt, gAbs, dAdd, dInt, dInt0, dMul, dNeg, dCmp, dEq, dNe, dIsN, dNotN, dIn, dIx, dSl, oNone, oSome, dLst, dTup, frzAll, frzV, newL, rdL, rdM, rdT, rdD, truD, dTru, mAppend, mInsert, mExtend, mPopAt, mIndex, mCount, dIsI, cMod, cDiv, cPow, cMul, iRange1, iRange2, WB.iList, WB.iTup, iPtr, sTry, hr, h]
  | true =>
    by_cases h1 : 1 ≤ w
    · by_cases h2 : w ≤ rs.length
      · simp [sSeq, sIf, sNil, sRet, sRetN, sSet, sExpr, sRaise, sBreak, sCont, sUnp, setAll, dVar, dC, dOp, dT, dB, dChain, dChain3, dAnd, dOr, dNot, dIf, dAndV, dOrV, dNotV, dCB, dCons, dNil, dCall, dMtd, gLen, gMax, gMin, gSum, gAllB, gAnyB, gSorted, gList, gTuple, gInt, gAbs, dAdd, dInt, dInt0, dMul, dNeg, dCmp, dEq, dNe, dIsN, dNotN, dIn, dIx, dSl, oNone, oSome, dLst, dTup, frzAll, frzV, newL, rdL, rdM, rdT, rdD, truD, dTru, mAppend, mInsert, mExtend, mPopAt, mIndex, mCount, dIsI, cMod, cDiv, cPow, cMul, iRange1, iRange2, WB.iList, WB.iTup, iPtr, sTry, hr, h, h1, h2]
      · simp [sSeq, sIf, sNil, sRet, sRetN, sSet, sExpr, sRaise, sBreak, sCont, sUnp, setAll, dVar, dC, dOp, dT, dB, dChain, dChain3, dAnd, dOr, dNot, dIf, dAndV, dOrV, dNotV, dCB, dCons, dNil, dCall, dMtd, gLen, gMax, gMin, gSum, gAllB, gAnyB, gSorted, gList, gTuple, gInt, gAbs, dAdd, dInt, dInt0, dMul, dNeg, dCmp, dEq, dNe, dIsN, dNotN, dIn, dIx, dSl, oNone, oSome, dLst, dTup, frzAll, frzV, newL, rdL, rdM, rdT, rdD, truD, dTru, mAppend, mInsert, mExtend, mPopAt, mIndex, mCount, dIsI, cMod, cDiv, cPow, cMul, iRange1, iRange2, WB.iList, WB.iTup, iPtr, sTry, hr, h, h1, h2]
    · simp [sSeq, sIf, sNil, sRet, sRetN, sSet, sExpr, sRaise, sBreak, sCont, sUnp, setAll, dVar, dC, dOp, dT, dB, dChain, dChain3, dAnd, dOr, dNot, dIf, dAndV, dOrV, dNotV, dCB, dCons, dNil, dCall, dMtd, gLen, gMax, gMin, gSum, gAllB, gAnyB, gSorted, gList, gTuple, gInt, gAbs, dAdd, dInt, dInt0, dMul, dNeg, dCmp, dEq, dNe, dIsN, dNotN, dIn, dIx, dSl, oNone, oSome, dLst, dTup, frzAll, frzV, newL, rdL, rdM, rdT, rdD, truD, dTru, mAppend, mInsert, mExtend, mPopAt, mIndex, mCount, dIsI, cMod, cDiv, cPow, cMul, iRange1, iRange2, WB.iList, WB.iTup, iPtr, sTry, hr, h, h1]
/-- the windows' worths -/
def byI (f : List Int → Int) (rs : List Int) (w : Int) : List Int := (List.range (rs.length - w + 1).toNat).map fun k => f (cutI rs (some (k : Nat)) (some ((k : Nat) + w)))
theorem mem_rng {lo : Int} {n : Nat} {d : PyData} (h : d ∈ rngD lo n) : ∃ k, k < n ∧ d = .int (lo + (k : Nat)) := by
  unfold rngD at h
  obtain ⟨k, hk, rfl⟩ := List.mem_map.mp h
  exact ⟨k, List.mem_range.mp hk, rfl⟩
theorem by_eq (rs : List Int) (w : Int) (st : List Cell) (f : List Int → Int) (fe : EF) (h0 : 1 ≤ w) (h1 : w ≤ rs.length) (hl : rs.length ≤ 1000000)
    (he : ∀ (k : Nat) st, (k : Int) < rs.length - w + 1 → fe [.dat (LI rs), .dat (.int w), .dat (.int (0 + (k : Nat)))] st = .ok (.dat (.int (f (cutI rs (some (k : Nat)) (some ((k : Nat) + w)))))) st) :
    dLc [2] (tgN 2) (iRange1 (dCons (dOp (dAdd false) (dOp (dInt0 fun i j => i - j) (dCB gLen (dCons (dVar 0) dNil)) (dVar 1)) (dC (.int 1))) dNil)) tYesF fe [.dat (LI rs), .dat (.int w), .un] st = .ok (.dat (LI (byI f rs w))) st := by
  have hr : InRg (rs.length - w + 1) := inRg_small (by omega) (by omega)
  rw [dLc_map (items := rngD 0 (rs.length - w + 1).toNat) (fun d => match d with | .int v => .int (f (cutI rs (some v) (some (v + w)))) | _ => .none) (by simp only [iRange1, dCons, dNil, dOp, dAdd, dInt0, dCB, gLen, dVar, dC, rdL, List.getElem?_cons_zero, List.getElem?_cons_succ, bd_ok, Option.or_some, List.length_map]; simp [hr]) (fun d hd => ?_) (by rw [rngD_len]; omega)]
  · unfold byI rngD LI
    simp [Function.comp_def]
  · obtain ⟨k, hk, rfl⟩ := mem_rng hd
    refine ⟨[.dat (LI rs), .dat (.int w), .dat (.int (0 + (k : Nat)))], rfl, fun st => ?_⟩
    rw [he k st (by omega)]
    simp
theorem greatest_by_eq (rs : List Int) (w : Int) (st : List Cell) (hl : rs.length ≤ 1000000) : m_greatest_by [.dat (LI rs), .dat (.int w)] st =
    if rowB rs = true then (if widB rs w = true then .ok (.dat (LI (byI mxI rs w))) st else .rs 1 st) else .rs 0 st := by
  have hr := look_width_eq rs w st hl
  unfold m_greatest_by fnD b_greatest_by
  cases h : rowB rs with
  | false => simp [sSeq, sIf, sNil, sRet, sRetN, sSet, sExpr, sRaise, sBreak, sCont, sUnp, setAll, dVar, dC, dOp, dT, dB, dChain, dChain3, dAnd, dOr, dNot, dIf, dAndV, dOrV, dNotV, dCB, dCons, dNil, dCall, dMtd, gLen, gMax, gMin, gSum, gAllB, gAnyB, gSorted, gList, gTuple, gInt, gAbs, dAdd, dInt, dInt0, dMul, dNeg, dCmp, dEq, dNe, dIsN, dNotN, dIn, dIx, dSl, oNone, oSome, dLst, dTup, frzAll, frzV, newL, rdL, rdM, rdT, rdD, truD, dTru, mAppend, mInsert, mExtend, mPopAt, mIndex, mCount, dIsI, cMod, cDiv, cPow, cMul, iRange1, iRange2, WB.iList, WB.iTup, iPtr, sTry, hr, h]
  | true =>
    cases h1 : widB rs w with
    | false => simp [sSeq, sIf, sNil, sRet, sRetN, sSet, sExpr, sRaise, sBreak, sCont, sUnp, setAll, dVar, dC, dOp, dT, dB, dChain, dChain3, dAnd, dOr, dNot, dIf, dAndV, dOrV, dNotV, dCB, dCons, dNil, dCall, dMtd, gLen, gMax, gMin, gSum, gAllB, gAnyB, gSorted, gList, gTuple, gInt, gAbs, dAdd, dInt, dInt0, dMul, dNeg, dCmp, dEq, dNe, dIsN, dNotN, dIn, dIx, dSl, oNone, oSome, dLst, dTup, frzAll, frzV, newL, rdL, rdM, rdT, rdD, truD, dTru, mAppend, mInsert, mExtend, mPopAt, mIndex, mCount, dIsI, cMod, cDiv, cPow, cMul, iRange1, iRange2, WB.iList, WB.iTup, iPtr, sTry, hr, h, h1]
    | true =>
      have q : 1 ≤ w ∧ w ≤ rs.length := by
        unfold widB at h1
        simpa only [Bool.and_eq_true, decide_eq_true_eq] using h1
      have hc : lc1_greatest_by [.dat (LI rs), .dat (.int w), .un] st = .ok (.dat (LI (byI mxI rs w))) st := by
        refine by_eq rs w st mxI _ q.1 q.2 hl fun k st hk => ?_
        have hm := max_cut (st := st) (cutI_ne (xs := rs) (a := (k : Nat)) (b := (k : Nat) + w) (by omega) (by omega) (by omega))
        unfold lc1_greatest_by_e
        simp only [dCB, dCons, dSl, dVar, dNil, oSome, dOp, dC, dAdd, newL, rdL, List.getElem?_cons_zero, List.getElem?_cons_succ, bd_ok]
        simp [cutD_ints, hm]
      simp [sSeq, sIf, sNil, sRet, sRetN, sSet, sExpr, sRaise, sBreak, sCont, sUnp, setAll, dVar, dC, dOp, dT, dB, dChain, dChain3, dAnd, dOr, dNot, dIf, dAndV, dOrV, dNotV, dCB, dCons, dNil, dCall, dMtd, gLen, gMax, gMin, gSum, gAllB, gAnyB, gSorted, gList, gTuple, gInt, gAbs, dAdd, dInt, dInt0, dMul, dNeg, dCmp, dEq, dNe, dIsN, dNotN, dIn, dIx, dSl, oNone, oSome, dLst, dTup, frzAll, frzV, newL, rdL, rdM, rdT, rdD, truD, dTru, mAppend, mInsert, mExtend, mPopAt, mIndex, mCount, dIsI, cMod, cDiv, cPow, cMul, iRange1, iRange2, WB.iList, WB.iTup, iPtr, sTry, hr, h, h1, hc]
theorem least_by_eq (rs : List Int) (w : Int) (st : List Cell) (hl : rs.length ≤ 1000000) : m_least_by [.dat (LI rs), .dat (.int w)] st =
    if rowB rs = true then (if widB rs w = true then .ok (.dat (LI (byI mnI rs w))) st else .rs 1 st) else .rs 0 st := by
  have hr := look_width_eq rs w st hl
  unfold m_least_by fnD b_least_by
  cases h : rowB rs with
  | false => simp [sSeq, sIf, sNil, sRet, sRetN, sSet, sExpr, sRaise, sBreak, sCont, sUnp, setAll, dVar, dC, dOp, dT, dB, dChain, dChain3, dAnd, dOr, dNot, dIf, dAndV, dOrV, dNotV, dCB, dCons, dNil, dCall, dMtd, gLen, gMax, gMin, gSum, gAllB, gAnyB, gSorted, gList, gTuple, gInt, gAbs, dAdd, dInt, dInt0, dMul, dNeg, dCmp, dEq, dNe, dIsN, dNotN, dIn, dIx, dSl, oNone, oSome, dLst, dTup, frzAll, frzV, newL, rdL, rdM, rdT, rdD, truD, dTru, mAppend, mInsert, mExtend, mPopAt, mIndex, mCount, dIsI, cMod, cDiv, cPow, cMul, iRange1, iRange2, WB.iList, WB.iTup, iPtr, sTry, hr, h]
  | true =>
    cases h1 : widB rs w with
    | false => simp [sSeq, sIf, sNil, sRet, sRetN, sSet, sExpr, sRaise, sBreak, sCont, sUnp, setAll, dVar, dC, dOp, dT, dB, dChain, dChain3, dAnd, dOr, dNot, dIf, dAndV, dOrV, dNotV, dCB, dCons, dNil, dCall, dMtd, gLen, gMax, gMin, gSum, gAllB, gAnyB, gSorted, gList, gTuple, gInt, gAbs, dAdd, dInt, dInt0, dMul, dNeg, dCmp, dEq, dNe, dIsN, dNotN, dIn, dIx, dSl, oNone, oSome, dLst, dTup, frzAll, frzV, newL, rdL, rdM, rdT, rdD, truD, dTru, mAppend, mInsert, mExtend, mPopAt, mIndex, mCount, dIsI, cMod, cDiv, cPow, cMul, iRange1, iRange2, WB.iList, WB.iTup, iPtr, sTry, hr, h, h1]
    | true =>
      have q : 1 ≤ w ∧ w ≤ rs.length := by
        unfold widB at h1
        simpa only [Bool.and_eq_true, decide_eq_true_eq] using h1
      have hc : lc1_least_by [.dat (LI rs), .dat (.int w), .un] st = .ok (.dat (LI (byI mnI rs w))) st := by
        refine by_eq rs w st mnI _ q.1 q.2 hl fun k st hk => ?_
        have hm := min_cut (st := st) (cutI_ne (xs := rs) (a := (k : Nat)) (b := (k : Nat) + w) (by omega) (by omega) (by omega))
        unfold lc1_least_by_e
        simp only [dCB, dCons, dSl, dVar, dNil, oSome, dOp, dC, dAdd, newL, rdL, List.getElem?_cons_zero, List.getElem?_cons_succ, bd_ok]
        simp [cutD_ints, hm]
      simp [sSeq, sIf, sNil, sRet, sRetN, sSet, sExpr, sRaise, sBreak, sCont, sUnp, setAll, dVar, dC, dOp, dT, dB, dChain, dChain3, dAnd, dOr, dNot, dIf, dAndV, dOrV, dNotV, dCB, dCons, dNil, dCall, dMtd, gLen, gMax, gMin, gSum, gAllB, gAnyB, gSorted, gList, gTuple, gInt, gAbs, dAdd, dInt, dInt0, dMul, dNeg, dCmp, dEq, dNe, dIsN, dNotN, dIn, dIx, dSl, oNone, oSome, dLst, dTup, frzAll, frzV, newL, rdL, rdM, rdT, rdD, truD, dTru, mAppend, mInsert, mExtend, mPopAt, mIndex, mCount, dIsI, cMod, cDiv, cPow, cMul, iRange1, iRange2, WB.iList, WB.iTup, iPtr, sTry, hr, h, h1, hc]
end PG

set_option maxRecDepth 100000
set_option maxHeartbeats 4000000
namespace PG
open PySem PySem.Spec PyProof.Rows WB
open L2 (atI ixN atI_nat)
/-! ### how far a place reaches -/
def gR (rs : List Int) (j : Nat) : Int := rs.getD j 0
theorem at_row {rs : List Int} {j : Nat} (h : j < rs.length) : atI (rs.map PyData.int) ((j : Nat) : Int) = some (.int (gR rs j)) :=
  atI_nat (by rw [gR, List.getElem?_map, List.getElem?_eq_getElem h, List.getD_eq_getElem?_getD, List.getElem?_eq_getElem h]; rfl)
def leftN (g : Nat → Int) (p : Nat) : Nat → Nat
  | 0 => 0
  | f + 1 => if g f ≤ g p then leftN g p f else f + 1
/-- n: how many places there are behind l -/
def rightN (g : Nat → Int) (p : Nat) : Nat → Nat → Nat
  | 0, l => l
  | n + 1, l => if g (l + 1) ≤ g p then rightN g p n (l + 1) else l
theorem left_ok {rs : List Int} {p : Nat} (hp : p < rs.length) (x : DV) (st : List Cell) : ∀ (f fuel : Nat), f < fuel → f ≤ p →
    whileN wh1_reach_c wh1_reach_b fuel [.dat (LI rs), .dat (.int (p : Nat)), .dat (.int (f : Nat)), x] st = .nx [.dat (LI rs), .dat (.int (p : Nat)), .dat (.int (leftN (gR rs) p f : Nat)), x] st
  | 0, fuel + 1, _, _ => by
    unfold whileN wh1_reach_c leftN
    simp [sSeq, sIf, sNil, sRet, sRetN, sSet, sExpr, sRaise, sBreak, sCont, sUnp, setAll, dVar, dC, dOp, dT, dB, dChain, dChain3, dAnd, dOr, dNot, dIf, dAndV, dOrV, dNotV, dCB, dCons, dNil, dCall, dMtd, gLen, gMax, gMin, gSum, gAllB, gAnyB, gSorted, gList, gTuple, gInt, gAbs, dAdd, dInt, dInt0, dMul, dNeg, dCmp, dEq, dNe, dIsN, dNotN, dIn, dIx, dSl, oNone, oSome, dLst, dTup, frzAll, frzV, newL, rdL, rdM, rdT, rdD, truD, dTru, mAppend, mInsert, mExtend, mPopAt, mIndex, mCount, dIsI, cMod, cDiv, cPow, cMul, iRange1, iRange2, WB.iList, WB.iTup, iPtr, sTry]
  | f + 1, fuel + 1, h1, h2 => by
    have e1 := at_row (rs := rs) (j := f) (by omega)
    have e2 := at_row hp
    have e3 : ((f + 1 : Nat) : Int) - 1 = ((f : Nat) : Int) := by omega
    have e4 : (0 : Int) < ((f : Nat) : Int) + 1 := by omega
    have ih := left_ok hp x st f fuel (by omega) (by omega)
    rw [whileN]
    unfold leftN
    by_cases hc : gR rs f ≤ gR rs p
    · have hb : wh1_reach_b [.dat (LI rs), .dat (.int (p : Nat)), .dat (.int ((f + 1 : Nat) : Int)), x] st = .nx [.dat (LI rs), .dat (.int (p : Nat)), .dat (.int ((f : Nat) : Int)), x] st := by
        unfold wh1_reach_b
        simp only [sSet, dOp, dVar, dC, dInt0, List.getElem?_cons_zero, List.getElem?_cons_succ, bd_ok, sr_ok, e3]
        simp
      have hcc : wh1_reach_c [.dat (LI rs), .dat (.int (p : Nat)), .dat (.int ((f + 1 : Nat) : Int)), x] st = .ok true st := by
        unfold wh1_reach_c
        simp [sSeq, sIf, sNil, sRet, sRetN, sSet, sExpr, sRaise, sBreak, sCont, sUnp, setAll, dVar, dC, dOp, dT, dB, dChain, dChain3, dAnd, dOr, dNot, dIf, dAndV, dOrV, dNotV, dCB, dCons, dNil, dCall, dMtd, gLen, gMax, gMin, gSum, gAllB, gAnyB, gSorted, gList, gTuple, gInt, gAbs, dAdd, dInt, dInt0, dMul, dNeg, dCmp, dEq, dNe, dIsN, dNotN, dIn, dIx, dSl, oNone, oSome, dLst, dTup, frzAll, frzV, newL, rdL, rdM, rdT, rdD, truD, dTru, mAppend, mInsert, mExtend, mPopAt, mIndex, mCount, dIsI, cMod, cDiv, cPow, cMul, iRange1, iRange2, WB.iList, WB.iTup, iPtr, sTry, e4, e1, e2, hc]
      rw [hcc, sr_ok, if_pos rfl, hb, if_pos hc]
      exact ih
    · have hcc : wh1_reach_c [.dat (LI rs), .dat (.int (p : Nat)), .dat (.int ((f + 1 : Nat) : Int)), x] st = .ok false st := by
        unfold wh1_reach_c
        simp [sSeq, sIf, sNil, sRet, sRetN, sSet, sExpr, sRaise, sBreak, sCont, sUnp, setAll, dVar, dC, dOp, dT, dB, dChain, dChain3, dAnd, dOr, dNot, dIf, dAndV, dOrV, dNotV, dCB, dCons, dNil, dCall, dMtd, gLen, gMax, gMin, gSum, gAllB, gAnyB, gSorted, gList, gTuple, gInt, gAbs, dAdd, dInt, dInt0, dMul, dNeg, dCmp, dEq, dNe, dIsN, dNotN, dIn, dIx, dSl, oNone, oSome, dLst, dTup, frzAll, frzV, newL, rdL, rdM, rdT, rdD, truD, dTru, mAppend, mInsert, mExtend, mPopAt, mIndex, mCount, dIsI, cMod, cDiv, cPow, cMul, iRange1, iRange2, WB.iList, WB.iTup, iPtr, sTry, e4, e1, e2, hc]
      rw [hcc, sr_ok, if_neg Bool.false_ne_true, if_neg hc]
theorem right_ok {rs : List Int} {p : Nat} (hp : p < rs.length) (x : DV) (st : List Cell) : ∀ (n l fuel : Nat), n < fuel → l + n + 1 = rs.length →
    whileN wh2_reach_c wh2_reach_b fuel [.dat (LI rs), .dat (.int (p : Nat)), x, .dat (.int (l : Nat))] st = .nx [.dat (LI rs), .dat (.int (p : Nat)), x, .dat (.int (rightN (gR rs) p n l : Nat))] st
  | 0, l, fuel + 1, _, h2 => by
    have e4 : ¬ (((l : Nat) : Int) + 1 < (rs.length : Int)) := by omega
    have hcc : wh2_reach_c [.dat (LI rs), .dat (.int (p : Nat)), x, .dat (.int ((l : Nat) : Int))] st = .ok false st := by
      unfold wh2_reach_c
      simp [sSeq, sIf, sNil, sRet, sRetN, sSet, sExpr, sRaise, sBreak, sCont, sUnp, setAll, dVar, dC, dOp, dT, dB, dChain, dChain3, dAnd, dOr, dNot, dIf, dAndV, dOrV, dNotV, dCB, dCons, dNil, dCall, dMtd, gLen, gMax, gMin, gSum, gAllB, gAnyB, gSorted, gList, gTuple, gInt, gAbs, dAdd, dInt, dInt0, dMul, dNeg, dCmp, dEq, dNe, dIsN, dNotN, dIn, dIx, dSl, oNone, oSome, dLst, dTup, frzAll, frzV, newL, rdL, rdM, rdT, rdD, truD, dTru, mAppend, mInsert, mExtend, mPopAt, mIndex, mCount, dIsI, cMod, cDiv, cPow, cMul, iRange1, iRange2, WB.iList, WB.iTup, iPtr, sTry, e4]
    rw [whileN, hcc, sr_ok, if_neg Bool.false_ne_true]
    rfl
  | n + 1, l, fuel + 1, h1, h2 => by
    have e1 := at_row (rs := rs) (j := l + 1) (by omega)
    have e5 : (((l + 1 : Nat)) : Int) = ((l : Nat) : Int) + 1 := by omega
    rw [e5] at e1
    have e2 := at_row hp
    have e3 : ((l : Nat) : Int) + 1 = ((l + 1 : Nat) : Int) := by omega
    have e4 : ((l : Nat) : Int) + 1 < (rs.length : Int) := by omega
    have ih := right_ok hp x st n (l + 1) fuel (by omega) (by omega)
    rw [whileN]
    unfold rightN
    by_cases hc : gR rs (l + 1) ≤ gR rs p
    · have hb : wh2_reach_b [.dat (LI rs), .dat (.int (p : Nat)), x, .dat (.int ((l : Nat) : Int))] st = .nx [.dat (LI rs), .dat (.int (p : Nat)), x, .dat (.int ((l + 1 : Nat) : Int))] st := by
        unfold wh2_reach_b
        simp only [sSet, dOp, dVar, dC, dAdd, List.getElem?_cons_zero, List.getElem?_cons_succ, bd_ok, sr_ok, e3]
        simp
      have hcc : wh2_reach_c [.dat (LI rs), .dat (.int (p : Nat)), x, .dat (.int ((l : Nat) : Int))] st = .ok true st := by
        unfold wh2_reach_c
        simp [sSeq, sIf, sNil, sRet, sRetN, sSet, sExpr, sRaise, sBreak, sCont, sUnp, setAll, dVar, dC, dOp, dT, dB, dChain, dChain3, dAnd, dOr, dNot, dIf, dAndV, dOrV, dNotV, dCB, dCons, dNil, dCall, dMtd, gLen, gMax, gMin, gSum, gAllB, gAnyB, gSorted, gList, gTuple, gInt, gAbs, dAdd, dInt, dInt0, dMul, dNeg, dCmp, dEq, dNe, dIsN, dNotN, dIn, dIx, dSl, oNone, oSome, dLst, dTup, frzAll, frzV, newL, rdL, rdM, rdT, rdD, truD, dTru, mAppend, mInsert, mExtend, mPopAt, mIndex, mCount, dIsI, cMod, cDiv, cPow, cMul, iRange1, iRange2, WB.iList, WB.iTup, iPtr, sTry, e4, e1, e2, hc]
      rw [hcc, sr_ok, if_pos rfl, hb, if_pos hc]
      exact ih
    · have hcc : wh2_reach_c [.dat (LI rs), .dat (.int (p : Nat)), x, .dat (.int ((l : Nat) : Int))] st = .ok false st := by
        unfold wh2_reach_c
        simp [sSeq, sIf, sNil, sRet, sRetN, sSet, sExpr, sRaise, sBreak, sCont, sUnp, setAll, dVar, dC, dOp, dT, dB, dChain, dChain3, dAnd, dOr, dNot, dIf, dAndV, dOrV, dNotV, dCB, dCons, dNil, dCall, dMtd, gLen, gMax, gMin, gSum, gAllB, gAnyB, gSorted, gList, gTuple, gInt, gAbs, dAdd, dInt, dInt0, dMul, dNeg, dCmp, dEq, dNe, dIsN, dNotN, dIn, dIx, dSl, oNone, oSome, dLst, dTup, frzAll, frzV, newL, rdL, rdM, rdT, rdD, truD, dTru, mAppend, mInsert, mExtend, mPopAt, mIndex, mCount, dIsI, cMod, cDiv, cPow, cMul, iRange1, iRange2, WB.iList, WB.iTup, iPtr, sTry, e4, e1, e2, hc]
      rw [hcc, sr_ok, if_neg Bool.false_ne_true, if_neg hc]
theorem rowB_of {rs : List Int} (h : rowB rs = true) : 1 ≤ rs.length ∧ rs.length ≤ 8 ∧ ∀ v ∈ rs, 0 ≤ v ∧ v ≤ 9 := by
  unfold rowB at h
  simp only [Bool.and_eq_true, decide_eq_true_eq, List.all_map, List.all_eq_true] at h
  refine ⟨by omega, by omega, fun v hv => ?_⟩
  have := h.2 v hv
  unfold wB at this
  simpa only [Function.comp, id, Bool.and_eq_true, decide_eq_true_eq] using this
def reachI (rs : List Int) (p : Nat) : PyData := .tuple [.int (leftN (gR rs) p p : Nat), .int (rightN (gR rs) p (rs.length - 1 - p) p : Nat)]
theorem reach_eq (rs : List Int) (a : Int) (st : List Cell) (hl : rs.length ≤ 1000000) : m_reach [.dat (LI rs), .dat (.int a)] st =
    if rowB rs = true then (if strB rs a a = true then .ok (.dat (reachI rs a.toNat)) st else .rs 1 st) else .rs 0 st := by
  have hr := look_stretch_eq' rs a a st hl
  unfold m_reach fnD b_reach
  cases h : rowB rs with
  | false => simp [sSeq, sIf, sNil, sRet, sRetN, sSet, sExpr, sRaise, sBreak, sCont, sUnp, setAll, dVar, dC, dOp, dT, dB, dChain, dChain3, dAnd, dOr, dNot, dIf, dAndV, dOrV, dNotV, dCB, dCons, dNil, dCall, dMtd, gLen, gMax, gMin, gSum, gAllB, gAnyB, gSorted, gList, gTuple, gInt, gAbs, dAdd, dInt, dInt0, dMul, dNeg, dCmp, dEq, dNe, dIsN, dNotN, dIn, dIx, dSl, oNone, oSome, dLst, dTup, frzAll, frzV, newL, rdL, rdM, rdT, rdD, truD, dTru, mAppend, mInsert, mExtend, mPopAt, mIndex, mCount, dIsI, cMod, cDiv, cPow, cMul, iRange1, iRange2, WB.iList, WB.iTup, iPtr, sTry, hr, h]
  | true =>
    cases h1 : strB rs a a with
    | false => simp [sSeq, sIf, sNil, sRet, sRetN, sSet, sExpr, sRaise, sBreak, sCont, sUnp, setAll, dVar, dC, dOp, dT, dB, dChain, dChain3, dAnd, dOr, dNot, dIf, dAndV, dOrV, dNotV, dCB, dCons, dNil, dCall, dMtd, gLen, gMax, gMin, gSum, gAllB, gAnyB, gSorted, gList, gTuple, gInt, gAbs, dAdd, dInt, dInt0, dMul, dNeg, dCmp, dEq, dNe, dIsN, dNotN, dIn, dIx, dSl, oNone, oSome, dLst, dTup, frzAll, frzV, newL, rdL, rdM, rdT, rdD, truD, dTru, mAppend, mInsert, mExtend, mPopAt, mIndex, mCount, dIsI, cMod, cDiv, cPow, cMul, iRange1, iRange2, WB.iList, WB.iTup, iPtr, sTry, hr, h, h1]
    | true =>
      obtain ⟨q1, q2, q3⟩ := strB_of h1
      obtain ⟨r1, r2, _⟩ := rowB_of h
      obtain ⟨p, rfl⟩ := Int.eq_ofNat_of_zero_le q1
      have hp : p < rs.length := by omega
      have w1 : ∀ x, wh1_reach [.dat (LI rs), .dat (.int (p : Nat)), .dat (.int (p : Nat)), x] st = .nx [.dat (LI rs), .dat (.int (p : Nat)), .dat (.int (leftN (gR rs) p p : Nat)), x] st := fun x => left_ok hp x st p 20 (by omega) (Nat.le_refl _)
      have w2 : ∀ x, wh2_reach [.dat (LI rs), .dat (.int (p : Nat)), x, .dat (.int (p : Nat))] st = .nx [.dat (LI rs), .dat (.int (p : Nat)), x, .dat (.int (rightN (gR rs) p (rs.length - 1 - p) p : Nat))] st := fun x => right_ok hp x st (rs.length - 1 - p) p 20 (by omega) (by omega)
      simp [sSeq, sIf, sNil, sRet, sRetN, sSet, sExpr, sRaise, sBreak, sCont, sUnp, setAll, dVar, dC, dOp, dT, dB, dChain, dChain3, dAnd, dOr, dNot, dIf, dAndV, dOrV, dNotV, dCB, dCons, dNil, dCall, dMtd, gLen, gMax, gMin, gSum, gAllB, gAnyB, gSorted, gList, gTuple, gInt, gAbs, dAdd, dInt, dInt0, dMul, dNeg, dCmp, dEq, dNe, dIsN, dNotN, dIn, dIx, dSl, oNone, oSome, dLst, dTup, frzAll, frzV, newL, rdL, rdM, rdT, rdD, truD, dTru, mAppend, mInsert, mExtend, mPopAt, mIndex, mCount, dIsI, cMod, cDiv, cPow, cMul, iRange1, iRange2, WB.iList, WB.iTup, iPtr, sTry, hr, h, h1, w1, w2, reachI]
end PG

set_option maxRecDepth 100000
set_option maxHeartbeats 4000000
namespace PG
open PySem PySem.Spec PyProof.Rows WB
open L2 (atI ixN atI_nat)
/-! ### comprehensions that draw -/
theorem lcL_draw {h : PyData → List DV → Option (List DV)} {fe : EF} {δ : List DV} {P : PyData → Prop} {t n B : Nat} (ht : t < n) : ∀ (items acc : List PyData) (c : Nat) (st : List Cell), st.length = n → st[t]? = some (tw c) →
    (∀ d ∈ items, ∃ δ0, h d δ = some δ0 ∧ ∀ st c, st[t]? = some (tw c) → c < B → ∃ y, fe δ0 st = .ok (.dat y) (st.set t (tw (c + 1))) ∧ P y) → c + items.length ≤ B → acc.length + items.length ≤ 1000000 →
    ∃ ys, lcL h tYesF fe n items acc δ st = .ok (acc ++ ys) (st.set t (tw (c + items.length))) ∧ ys.length = items.length ∧ ∀ y ∈ ys, P y
  | [], acc, c, st, hn, hc, _, _, _ => ⟨[], by
      rw [lcL]
      have : st.set t (tw (c + ([] : List PyData).length)) = st := by
        have hlt : t < st.length := by omega
        have e : st[t] = tw c := by
          rw [List.getElem?_eq_getElem hlt] at hc
          exact Option.some.inj hc
        show st.set t (tw c) = st
        rw [← e, List.set_getElem_self]
      rw [this, List.append_nil], rfl, fun y hy => by simp at hy⟩
  | d :: ds, acc, c, st, hn, hc, hd, hB, hl => by
    obtain ⟨δ0, h1, h2⟩ := hd d List.mem_cons_self
    have hB' : c + (ds.length + 1) ≤ B := hB
    have hl' : acc.length + (ds.length + 1) ≤ 1000000 := hl
    have hlt : t < st.length := by omega
    obtain ⟨y, h3, h4⟩ := h2 (st ++ [.mu acc]) c (by rw [List.getElem?_append_left hlt]; exact hc) (by omega)
    have e3 : (st ++ [Cell.mu acc]).set t (tw (c + 1)) = st.set t (tw (c + 1)) ++ [.mu acc] := List.set_append_left t _ hlt
    have hn2 : (st.set t (tw (c + 1))).length = n := by rw [List.length_set]; exact hn
    have e1 : (st.set t (tw (c + 1)) ++ [Cell.mu acc])[n]? = some (.mu acc) := by rw [← hn2, List.getElem?_append_right (Nat.le_refl _), Nat.sub_self]; rfl
    have e2 : (st.set t (tw (c + 1)) ++ [Cell.mu acc]).take n = st.set t (tw (c + 1)) := by rw [← hn2, List.take_left]
    obtain ⟨ys, q1, q2, q3⟩ := lcL_draw (P := P) (B := B) ht ds (acc ++ [y]) (c + 1) (st.set t (tw (c + 1))) hn2 (List.getElem?_set_self hlt) (fun x hx => hd x (List.mem_cons_of_mem _ hx)) (by omega) (by rw [List.length_append]; simp; omega)
    refine ⟨y :: ys, ?_, by rw [List.length_cons, q2]; rfl, fun z hz => ?_⟩
    · rw [lcL, h1]
      dsimp only
      rw [show tYesF δ0 (st ++ [.mu acc]) = .ok true (st ++ [.mu acc]) from rfl, bd_ok, if_pos rfl, h3, bd_ok, e3, e1]
      dsimp only
      rw [if_pos (by omega), e2, q1, List.set_set, List.append_assoc]
      congr 3
      show c + 1 + ds.length = c + (ds.length + 1)
      omega
    · rcases List.mem_cons.mp hz with q | q
      · rw [q]; exact h4
      · exact q3 z q
theorem ints_of {P : Int → Prop} : ∀ {ys : List PyData}, (∀ y ∈ ys, ∃ v, y = .int v ∧ P v) → ∃ vs : List Int, ys = vs.map PyData.int ∧ ∀ v ∈ vs, P v
  | [], _ => ⟨[], rfl, fun v hv => by simp at hv⟩
  | y :: ys, h => by
    obtain ⟨v, rfl, hv⟩ := h y List.mem_cons_self
    obtain ⟨vs, rfl, h2⟩ := ints_of (P := P) fun z hz => h z (List.mem_cons_of_mem _ hz)
    refine ⟨v :: vs, rfl, fun z hz => ?_⟩
    rcases List.mem_cons.mp hz with q | q
    · rw [q]; exact hv
    · exact h2 z q
/-- a row of up to so many places and worths -/
theorem row_ok (ns : List Int) (t c : Nat) (most worth : Int) (st : List Cell) (hm : 0 < most) (hm2 : most ≤ 1000) (hw : 0 ≤ worth) (ht : st[t]? = some (tw c)) (hc : c < 50000) :
    ∃ (rs : List Int) (c' : Nat), m__law_row [.scr ns, .ptr t, .dat (.int most), .dat (.int worth)] st = .ok (.dat (LI rs)) (st.set t (tw c')) ∧ 1 ≤ rs.length ∧ (rs.length : Int) ≤ most ∧ (∀ v ∈ rs, 0 ≤ v ∧ v ≤ worth) ∧ c' ≤ c + 1001 := by
  have hlt : t < st.length := (List.getElem?_eq_some_iff.mp ht).1
  obtain ⟨v, hv, v0, v1⟩ := draw_ok ns t c most st hm ht (by omega)
  have hn2 : (st.set t (tw (c + 1))).length = st.length := List.length_set
  have hr : InRg (1 + v) := inRg_small (by omega) (by omega)
  obtain ⟨ys, q1, q2, q3⟩ := lcL_draw (h := tgN 4) (fe := lc1__law_row_e) (δ := [.scr ns, .ptr t, .dat (.int most), .dat (.int worth), .un]) (P := fun y => ∃ z, y = .int z ∧ 0 ≤ z ∧ z ≤ worth) (t := t) (n := st.length) (B := 60000) hlt (rngD 0 (1 + v).toNat) [] (c + 1) (st.set t (tw (c + 1))) hn2 (List.getElem?_set_self hlt)
    (fun d hd => ⟨[.scr ns, .ptr t, .dat (.int most), .dat (.int worth), .dat d], rfl, fun st c hc hcB => by
      obtain ⟨z, hz, z0, z1⟩ := draw_ok ns t c (worth + 1) st (by omega) hc (by omega)
      refine ⟨.int z, ?_, z, rfl, z0, by omega⟩
      unfold lc1__law_row_e
      simp [sSeq, sIf, sNil, sRet, sRetN, sSet, sExpr, sRaise, sBreak, sCont, sUnp, setAll, dVar, dC, dOp, dT, dB, dChain, dChain3, dAnd, dOr, dNot, dIf, dAndV, dOrV, dNotV, dCB, dCons, dNil, dCall, dMtd, gLen, gMax, gMin, gSum, gAllB, gAnyB, gSorted, gList, gTuple, gInt, gAbs, dAdd, dInt, dInt0, dMul, dNeg, dCmp, dEq, dNe, dIsN, dNotN, dIn, dIx, dSl, oNone, oSome, dLst, dTup, frzAll, frzV, newL, rdL, rdM, rdT, rdD, truD, dTru, mAppend, mInsert, mExtend, mPopAt, mIndex, mCount, dIsI, cMod, cDiv, cPow, cMul, iRange1, iRange2, WB.iList, WB.iTup, iPtr, sTry, hz]⟩) (by rw [rngD_len]; omega) (by rw [rngD_len]; simp; omega)
  obtain ⟨rs, rfl, hrs⟩ := ints_of q3
  rw [rngD_len] at q2 q1
  rw [List.length_map] at q2
  refine ⟨rs, c + 1 + (1 + v).toNat, ?_, by omega, by omega, hrs, by omega⟩
  have hlc : lc1__law_row [.scr ns, .ptr t, .dat (.int most), .dat (.int worth), .un] st = .ok (.dat (LI rs)) (st.set t (tw (c + 1 + (1 + v).toNat))) := by
    unfold lc1__law_row dLc
    have hi : iRange1 (dCons (dOp (dAdd false) (dC (.int 1)) (dCall 3 m__law_draw (dCons (dVar 0) (dCons (dVar 1) (dCons (dVar 2) dNil))))) dNil) [.scr ns, .ptr t, .dat (.int most), .dat (.int worth), .un] st = .ok (rngD 0 (1 + v).toNat) (st.set t (tw (c + 1))) := by
      simp [sSeq, sIf, sNil, sRet, sRetN, sSet, sExpr, sRaise, sBreak, sCont, sUnp, setAll, dVar, dC, dOp, dT, dB, dChain, dChain3, dAnd, dOr, dNot, dIf, dAndV, dOrV, dNotV, dCB, dCons, dNil, dCall, dMtd, gLen, gMax, gMin, gSum, gAllB, gAnyB, gSorted, gList, gTuple, gInt, gAbs, dAdd, dInt, dInt0, dMul, dNeg, dCmp, dEq, dNe, dIsN, dNotN, dIn, dIx, dSl, oNone, oSome, dLst, dTup, frzAll, frzV, newL, rdL, rdM, rdT, rdD, truD, dTru, mAppend, mInsert, mExtend, mPopAt, mIndex, mCount, dIsI, cMod, cDiv, cPow, cMul, iRange1, iRange2, WB.iList, WB.iTup, iPtr, sTry, hv, hr]
    rw [hi, bd_ok, hn2]
    show (lcL (tgN 4) tYesF lc1__law_row_e st.length (rngD 0 (1 + v).toNat) [] [.scr ns, .ptr t, .dat (.int most), .dat (.int worth), .un] (st.set t (tw (c + 1)))).bx _ = _
    rw [q1, bx_ok, List.set_set]
    rfl
  unfold m__law_row fnD b__law_row
  simp [sSeq, sIf, sNil, sRet, sRetN, sSet, sExpr, sRaise, sBreak, sCont, sUnp, setAll, dVar, dC, dOp, dT, dB, dChain, dChain3, dAnd, dOr, dNot, dIf, dAndV, dOrV, dNotV, dCB, dCons, dNil, dCall, dMtd, gLen, gMax, gMin, gSum, gAllB, gAnyB, gSorted, gList, gTuple, gInt, gAbs, dAdd, dInt, dInt0, dMul, dNeg, dCmp, dEq, dNe, dIsN, dNotN, dIn, dIx, dSl, oNone, oSome, dLst, dTup, frzAll, frzV, newL, rdL, rdM, rdT, rdD, truD, dTru, mAppend, mInsert, mExtend, mPopAt, mIndex, mCount, dIsI, cMod, cDiv, cPow, cMul, iRange1, iRange2, WB.iList, WB.iTup, iPtr, sTry, hlc]
end PG

set_option maxRecDepth 100000
set_option maxHeartbeats 4000000
namespace PG
open PySem PySem.Spec PyProof.Rows WB
open L2 (atI ixN atI_nat)
/-! ### facts -/
structure Fc where
  w : Str
  a : Int
  b : Int
  v : Int
def fcD (f : Fc) : PyData := .tuple [.str f.w, .int f.a, .int f.b, .int f.v]
abbrev LF (fs : List Fc) : PyData := .list (fs.map fcD)
def wdB (w : Str) : Bool := decide (w = "greatest") || decide (w = "least")
def okF (size most : Int) (f : Fc) : Bool := wdB f.w && ((decide (0 ≤ f.a) && (decide (f.a ≤ f.b) && decide (f.b < size))) && (decide (0 ≤ f.v) && decide (f.v ≤ most)))
def szB (size most : Int) : Bool := (decide (1 ≤ size) && decide (size ≤ 8)) && (decide (0 ≤ most) && decide (most ≤ 9))
theorem look_sizes_eq (size most : Int) (st : List Cell) : m_look_sizes [.dat (.int size), .dat (.int most)] st = if szB size most = true then .ok (.dat .none) st else .rs 2 st := by
  unfold m_look_sizes fnD b_look_sizes szB
  by_cases h1 : 1 ≤ size
  · by_cases h2 : size ≤ 8
    · by_cases h3 : 0 ≤ most
      · by_cases h4 : most ≤ 9
        · simp [sSeq, sIf, sNil, sRet, sRetN, sSet, sExpr, sRaise, sBreak, sCont, sUnp, setAll, dVar, dC, dOp, dT, dB, dChain, dChain3, dAnd, dOr, dNot, dIf, dAndV, dOrV, dNotV, dCB, dCons, dNil, dCall, dMtd, gLen, gMax, gMin, gSum, gAllB, gAnyB, gSorted, gList, gTuple, gInt, gAbs, dAdd, dInt, dInt0, dMul, dNeg, dCmp, dEq, dNe, dIsN, dNotN, dIn, dIx, dSl, oNone, oSome, dLst, dTup, frzAll, frzV, newL, rdL, rdM, rdT, rdD, truD, dTru, mAppend, mInsert, mExtend, mPopAt, mIndex, mCount, dIsI, cMod, cDiv, cPow, cMul, iRange1, iRange2, WB.iList, WB.iTup, iPtr, sTry, h1, h2, h3, h4]
        · simp [sSeq, sIf, sNil, sRet, sRetN, sSet, sExpr, sRaise, sBreak, sCont, sUnp, setAll, dVar, dC, dOp, dT, dB, dChain, dChain3, dAnd, dOr, dNot, dIf, dAndV, dOrV, dNotV, dCB, dCons, dNil, dCall, dMtd, gLen, gMax, gMin, gSum, gAllB, gAnyB, gSorted, gList, gTuple, gInt, gAbs, dAdd, dInt, dInt0, dMul, dNeg, dCmp, dEq, dNe, dIsN, dNotN, dIn, dIx, dSl, oNone, oSome, dLst, dTup, frzAll, frzV, newL, rdL, rdM, rdT, rdD, truD, dTru, mAppend, mInsert, mExtend, mPopAt, mIndex, mCount, dIsI, cMod, cDiv, cPow, cMul, iRange1, iRange2, WB.iList, WB.iTup, iPtr, sTry, h1, h2, h3, h4]
      · simp [sSeq, sIf, sNil, sRet, sRetN, sSet, sExpr, sRaise, sBreak, sCont, sUnp, setAll, dVar, dC, dOp, dT, dB, dChain, dChain3, dAnd, dOr, dNot, dIf, dAndV, dOrV, dNotV, dCB, dCons, dNil, dCall, dMtd, gLen, gMax, gMin, gSum, gAllB, gAnyB, gSorted, gList, gTuple, gInt, gAbs, dAdd, dInt, dInt0, dMul, dNeg, dCmp, dEq, dNe, dIsN, dNotN, dIn, dIx, dSl, oNone, oSome, dLst, dTup, frzAll, frzV, newL, rdL, rdM, rdT, rdD, truD, dTru, mAppend, mInsert, mExtend, mPopAt, mIndex, mCount, dIsI, cMod, cDiv, cPow, cMul, iRange1, iRange2, WB.iList, WB.iTup, iPtr, sTry, h1, h2, h3]
    · simp [sSeq, sIf, sNil, sRet, sRetN, sSet, sExpr, sRaise, sBreak, sCont, sUnp, setAll, dVar, dC, dOp, dT, dB, dChain, dChain3, dAnd, dOr, dNot, dIf, dAndV, dOrV, dNotV, dCB, dCons, dNil, dCall, dMtd, gLen, gMax, gMin, gSum, gAllB, gAnyB, gSorted, gList, gTuple, gInt, gAbs, dAdd, dInt, dInt0, dMul, dNeg, dCmp, dEq, dNe, dIsN, dNotN, dIn, dIx, dSl, oNone, oSome, dLst, dTup, frzAll, frzV, newL, rdL, rdM, rdT, rdD, truD, dTru, mAppend, mInsert, mExtend, mPopAt, mIndex, mCount, dIsI, cMod, cDiv, cPow, cMul, iRange1, iRange2, WB.iList, WB.iTup, iPtr, sTry, h1, h2]
  · simp [sSeq, sIf, sNil, sRet, sRetN, sSet, sExpr, sRaise, sBreak, sCont, sUnp, setAll, dVar, dC, dOp, dT, dB, dChain, dChain3, dAnd, dOr, dNot, dIf, dAndV, dOrV, dNotV, dCB, dCons, dNil, dCall, dMtd, gLen, gMax, gMin, gSum, gAllB, gAnyB, gSorted, gList, gTuple, gInt, gAbs, dAdd, dInt, dInt0, dMul, dNeg, dCmp, dEq, dNe, dIsN, dNotN, dIn, dIx, dSl, oNone, oSome, dLst, dTup, frzAll, frzV, newL, rdL, rdM, rdT, rdD, truD, dTru, mAppend, mInsert, mExtend, mPopAt, mIndex, mCount, dIsI, cMod, cDiv, cPow, cMul, iRange1, iRange2, WB.iList, WB.iTup, iPtr, sTry, h1]
theorem at4_0 {p q r s : PyData} : atI [p, q, r, s] 0 = some p := rfl
theorem at4_1 {p q r s : PyData} : atI [p, q, r, s] 1 = some q := rfl
theorem at4_2 {p q r s : PyData} : atI [p, q, r, s] 2 = some r := rfl
theorem at4_3 {p q r s : PyData} : atI [p, q, r, s] 3 = some s := rfl
theorem flat_str {w : Str} : flatD (.str w) = true := rfl
theorem in_words (w : Str) : isIn (.str w) [.str "greatest", .str "least"] = wdB w := by
  unfold wdB isIn
  by_cases h1 : w = "greatest"
  · subst h1; rfl
  · by_cases h2 : w = "least"
    · subst h2; rfl
    · have h3 : ¬ ("greatest" : Str) = w := fun z => h1 z.symm
      have h4 : ¬ ("least" : Str) = w := fun z => h2 z.symm
      simp [L2.inV, vOf, L2.eqV, h1, h2, h3, h4]
theorem is_fact_eq (size most : Int) (f : Fc) (st : List Cell) : m_is_fact [.dat (.int size), .dat (.int most), .dat (fcD f)] st = .ok (.dat (.bool (okF size most f))) st := by
  obtain ⟨w, a, b, v⟩ := f
  have hw := in_words w
  unfold m_is_fact fnD b_is_fact okF fcD d_WORDS
  cases hb : wdB w with
  | false => simp [sSeq, sIf, sNil, sRet, sRetN, sSet, sExpr, sRaise, sBreak, sCont, sUnp, setAll, dVar, dC, dOp, dT, dB, dChain, dChain3, dAnd, dOr, dNot, dIf, dAndV, dOrV, dNotV, dCB, dCons, dNil, dCall, dMtd, gLen, gMax, gMin, gSum, gAllB, gAnyB, gSorted, gList, gTuple, gInt, gAbs, dAdd, dInt, dInt0, dMul, dNeg, dCmp, dEq, dNe, dIsN, dNotN, dIn, dIx, dSl, oNone, oSome, dLst, dTup, frzAll, frzV, newL, rdL, rdM, rdT, rdD, truD, dTru, mAppend, mInsert, mExtend, mPopAt, mIndex, mCount, dIsI, cMod, cDiv, cPow, cMul, iRange1, iRange2, WB.iList, WB.iTup, iPtr, sTry, hw, hb, at4_0, at4_1, at4_2, at4_3, flat_str]
  | true =>
    by_cases h1 : 0 ≤ a
    · by_cases h2 : a ≤ b
      · by_cases h3 : b < size
        · by_cases h4 : 0 ≤ v
          · simp [sSeq, sIf, sNil, sRet, sRetN, sSet, sExpr, sRaise, sBreak, sCont, sUnp, setAll, dVar, dC, dOp, dT, dB, dChain, dChain3, dAnd, dOr, dNot, dIf, dAndV, dOrV, dNotV, dCB, dCons, dNil, dCall, dMtd, gLen, gMax, gMin, gSum, gAllB, gAnyB, gSorted, gList, gTuple, gInt, gAbs, dAdd, dInt, dInt0, dMul, dNeg, dCmp, dEq, dNe, dIsN, dNotN, dIn, dIx, dSl, oNone, oSome, dLst, dTup, frzAll, frzV, newL, rdL, rdM, rdT, rdD, truD, dTru, mAppend, mInsert, mExtend, mPopAt, mIndex, mCount, dIsI, cMod, cDiv, cPow, cMul, iRange1, iRange2, WB.iList, WB.iTup, iPtr, sTry, hw, hb, h1, h2, h3, h4, at4_0, at4_1, at4_2, at4_3, flat_str]
          · simp [sSeq, sIf, sNil, sRet, sRetN, sSet, sExpr, sRaise, sBreak, sCont, sUnp, setAll, dVar, dC, dOp, dT, dB, dChain, dChain3, dAnd, dOr, dNot, dIf, dAndV, dOrV, dNotV, dCB, dCons, dNil, dCall, dMtd, gLen, gMax, gMin, gSum, gAllB, gAnyB, gSorted, gList, gTuple, gInt, gAbs, dAdd, dInt, dInt0, dMul, dNeg, dCmp, dEq, dNe, dIsN, dNotN, dIn, dIx, dSl, oNone, oSome, dLst, dTup, frzAll, frzV, newL, rdL, rdM, rdT, rdD, truD, dTru, mAppend, mInsert, mExtend, mPopAt, mIndex, mCount, dIsI, cMod, cDiv, cPow, cMul, iRange1, iRange2, WB.iList, WB.iTup, iPtr, sTry, hw, hb, h1, h2, h3, h4, at4_0, at4_1, at4_2, at4_3, flat_str]
        · simp [sSeq, sIf, sNil, sRet, sRetN, sSet, sExpr, sRaise, sBreak, sCont, sUnp, setAll, dVar, dC, dOp, dT, dB, dChain, dChain3, dAnd, dOr, dNot, dIf, dAndV, dOrV, dNotV, dCB, dCons, dNil, dCall, dMtd, gLen, gMax, gMin, gSum, gAllB, gAnyB, gSorted, gList, gTuple, gInt, gAbs, dAdd, dInt, dInt0, dMul, dNeg, dCmp, dEq, dNe, dIsN, dNotN, dIn, dIx, dSl, oNone, oSome, dLst, dTup, frzAll, frzV, newL, rdL, rdM, rdT, rdD, truD, dTru, mAppend, mInsert, mExtend, mPopAt, mIndex, mCount, dIsI, cMod, cDiv, cPow, cMul, iRange1, iRange2, WB.iList, WB.iTup, iPtr, sTry, hw, hb, h1, h2, h3, at4_0, at4_1, at4_2, at4_3, flat_str]
      · simp [sSeq, sIf, sNil, sRet, sRetN, sSet, sExpr, sRaise, sBreak, sCont, sUnp, setAll, dVar, dC, dOp, dT, dB, dChain, dChain3, dAnd, dOr, dNot, dIf, dAndV, dOrV, dNotV, dCB, dCons, dNil, dCall, dMtd, gLen, gMax, gMin, gSum, gAllB, gAnyB, gSorted, gList, gTuple, gInt, gAbs, dAdd, dInt, dInt0, dMul, dNeg, dCmp, dEq, dNe, dIsN, dNotN, dIn, dIx, dSl, oNone, oSome, dLst, dTup, frzAll, frzV, newL, rdL, rdM, rdT, rdD, truD, dTru, mAppend, mInsert, mExtend, mPopAt, mIndex, mCount, dIsI, cMod, cDiv, cPow, cMul, iRange1, iRange2, WB.iList, WB.iTup, iPtr, sTry, hw, hb, h1, h2, at4_0, at4_1, at4_2, at4_3, flat_str]
    · simp [sSeq, sIf, sNil, sRet, sRetN, sSet, sExpr, sRaise, sBreak, sCont, sUnp, setAll, dVar, dC, dOp, dT, dB, dChain, dChain3, dAnd, dOr, dNot, dIf, dAndV, dOrV, dNotV, dCB, dCons, dNil, dCall, dMtd, gLen, gMax, gMin, gSum, gAllB, gAnyB, gSorted, gList, gTuple, gInt, gAbs, dAdd, dInt, dInt0, dMul, dNeg, dCmp, dEq, dNe, dIsN, dNotN, dIn, dIx, dSl, oNone, oSome, dLst, dTup, frzAll, frzV, newL, rdL, rdM, rdT, rdD, truD, dTru, mAppend, mInsert, mExtend, mPopAt, mIndex, mCount, dIsI, cMod, cDiv, cPow, cMul, iRange1, iRange2, WB.iList, WB.iTup, iPtr, sTry, hw, hb, h1, at4_0, at4_1, at4_2, at4_3, flat_str]
end PG

set_option maxRecDepth 100000
set_option maxHeartbeats 4000000
namespace WB
open PySem PySem.Spec PyProof.Rows
theorem lcL_enc {α : Type} (enc : α → PyData) {h : PyData → List DV → Option (List DV)} {ft : TF} {fe : EF} {δ : List DV} (p : α → Bool) (e : α → PyData) {n : Nat} {st : List Cell} (hn : st.length = n) : ∀ (items : List α) (acc : List PyData),
    (∀ d ∈ items, ∃ δ0, h (enc d) δ = some δ0 ∧ (∀ st, ft δ0 st = .ok (p d) st) ∧ (p d = true → ∀ st, fe δ0 st = .ok (.dat (e d)) st)) → acc.length + items.length ≤ 1000000 →
    lcL h ft fe n (items.map enc) acc δ st = .ok (acc ++ (items.filter p).map e) st
  | [], acc, _, _ => by rw [List.map_nil, lcL]; simp
  | d :: ds, acc, hd, hl => by
    obtain ⟨δ0, h1, h2, h3⟩ := hd d List.mem_cons_self
    have hl' : acc.length + (ds.length + 1) ≤ 1000000 := hl
    have e1 : (st ++ [Cell.mu acc])[n]? = some (.mu acc) := by rw [← hn, List.getElem?_append_right (Nat.le_refl _), Nat.sub_self]; rfl
    have e2 : (st ++ [Cell.mu acc]).take n = st := by rw [← hn, List.take_left]
    rw [List.map_cons, lcL, h1]
    dsimp only
    rw [h2, bd_ok]
    cases hp : p d with
    | true =>
      rw [if_pos rfl, h3 hp, bd_ok, e1]
      dsimp only
      rw [if_pos (by omega), e2, lcL_enc enc p e hn ds (acc ++ [e d]) (fun x hx => hd x (List.mem_cons_of_mem _ hx)) (by rw [List.length_append]; simp; omega), List.filter_cons_of_pos hp]
      simp
    | false =>
      rw [if_neg Bool.false_ne_true, e1]
      dsimp only
      rw [e2, lcL_enc enc p e hn ds acc (fun x hx => hd x (List.mem_cons_of_mem _ hx)) (by omega), List.filter_cons_of_neg (by simp [hp])]
/-- a comprehension over coded things that leaves the store alone -/
theorem dLc_enc {α : Type} (enc : α → PyData) (xs : List α) {vs : List Nat} {h : PyData → List DV → Option (List DV)} {fi : IF} {ft : TF} {fe : EF} {δ : List DV} {st : List Cell} (p : α → Bool) (e : α → PyData) (hi : fi δ st = .ok (xs.map enc) st)
    (hd : ∀ d ∈ xs, ∃ δ0, h (enc d) (wipeD δ vs) = some δ0 ∧ (∀ st, ft δ0 st = .ok (p d) st) ∧ (p d = true → ∀ st, fe δ0 st = .ok (.dat (e d)) st)) (hl : xs.length ≤ 1000000) :
    dLc vs h fi ft fe δ st = .ok (.dat (.list ((xs.filter p).map e))) st := by
  unfold dLc
  rw [hi, bd_ok, lcL_enc enc p e rfl xs [] hd (by simpa using hl), bx_ok, List.nil_append]
theorem dLc_encM {α : Type} (enc : α → PyData) (xs : List α) {vs : List Nat} {h : PyData → List DV → Option (List DV)} {fi : IF} {fe : EF} {δ : List DV} {st : List Cell} (e : α → PyData) (hi : fi δ st = .ok (xs.map enc) st)
    (hd : ∀ d ∈ xs, ∃ δ0, h (enc d) (wipeD δ vs) = some δ0 ∧ ∀ st, fe δ0 st = .ok (.dat (e d)) st) (hl : xs.length ≤ 1000000) :
    dLc vs h fi tYesF fe δ st = .ok (.dat (.list (xs.map e))) st := by
  rw [dLc_enc enc xs (fun _ => true) e hi (fun d hx => by obtain ⟨δ0, h1, h2⟩ := hd d hx; exact ⟨δ0, h1, fun _ => rfl, fun _ => h2⟩) hl, filter_all]
end WB
namespace PG
open PySem PySem.Spec PyProof.Rows WB
open L2 (atI ixN atI_nat)
theorem rng_enc (n : Nat) : rngD 0 n = (List.range n).map fun k => PyData.int (k : Nat) := by
  unfold rngD
  apply List.map_congr_left
  intro a _
  simp
/-! ### look_told -/
def tdB (size most : Int) (fs : List Fc) : Bool := decide (fs.length ≤ 6) && fs.all (okF size most)
theorem lc_look_told (size most : Int) (fs : List Fc) (st : List Cell) (hl : fs.length ≤ 1000000) : lc1_look_told [.dat (.int size), .dat (.int most), .dat (LF fs), .un] st = .ok (.dat (.list ((fs.map (okF size most)).map PyData.bool))) st := by
  unfold lc1_look_told
  rw [dLc_encM fcD fs (fun f => .bool (okF size most f)) (by simp [sSeq, sIf, sNil, sRet, sRetN, sSet, sExpr, sRaise, sBreak, sCont, sUnp, setAll, dVar, dC, dOp, dT, dB, dChain, dChain3, dAnd, dOr, dNot, dIf, dAndV, dOrV, dNotV, dCB, dCons, dNil, dCall, dMtd, gLen, gMax, gMin, gSum, gAllB, gAnyB, gSorted, gList, gTuple, gInt, gAbs, dAdd, dInt, dInt0, dMul, dNeg, dCmp, dEq, dNe, dIsN, dNotN, dIn, dIx, dSl, oNone, oSome, dLst, dTup, frzAll, frzV, newL, rdL, rdM, rdT, rdD, truD, dTru, mAppend, mInsert, mExtend, mPopAt, mIndex, mCount, dIsI, cMod, cDiv, cPow, cMul, iRange1, iRange2, WB.iList, WB.iTup, iPtr, sTry]) (fun f _ => ?_) hl]
  · rw [List.map_map]; rfl
  · refine ⟨[.dat (.int size), .dat (.int most), .dat (LF fs), .dat (fcD f)], rfl, fun st => ?_⟩
    have := is_fact_eq size most f st
    unfold lc1_look_told_e
    simp [sSeq, sIf, sNil, sRet, sRetN, sSet, sExpr, sRaise, sBreak, sCont, sUnp, setAll, dVar, dC, dOp, dT, dB, dChain, dChain3, dAnd, dOr, dNot, dIf, dAndV, dOrV, dNotV, dCB, dCons, dNil, dCall, dMtd, gLen, gMax, gMin, gSum, gAllB, gAnyB, gSorted, gList, gTuple, gInt, gAbs, dAdd, dInt, dInt0, dMul, dNeg, dCmp, dEq, dNe, dIsN, dNotN, dIn, dIx, dSl, oNone, oSome, dLst, dTup, frzAll, frzV, newL, rdL, rdM, rdT, rdD, truD, dTru, mAppend, mInsert, mExtend, mPopAt, mIndex, mCount, dIsI, cMod, cDiv, cPow, cMul, iRange1, iRange2, WB.iList, WB.iTup, iPtr, sTry, this]
theorem look_told_eq (size most : Int) (fs : List Fc) (st : List Cell) (hl : fs.length ≤ 1000000) : m_look_told [.dat (.int size), .dat (.int most), .dat (LF fs)] st = if szB size most = true then (if tdB size most fs = true then .ok (.dat .none) st else .rs 3 st) else .rs 2 st := by
  have h1 := look_sizes_eq size most st
  have h2 := lc_look_told size most fs st hl
  have e1 := asBools_map (fs.map (okF size most))
  have e2 : (fs.map (okF size most)).all id = fs.all (okF size most) := by rw [List.all_map]; rfl
  unfold m_look_told fnD b_look_told tdB
  generalize fs.map (okF size most) = bs at h2 e1 e2
  cases hs : szB size most with
  | false => simp [sSeq, sIf, sNil, sRet, sRetN, sSet, sExpr, sRaise, sBreak, sCont, sUnp, setAll, dVar, dC, dOp, dT, dB, dChain, dChain3, dAnd, dOr, dNot, dIf, dAndV, dOrV, dNotV, dCB, dCons, dNil, dCall, dMtd, gLen, gMax, gMin, gSum, gAllB, gAnyB, gSorted, gList, gTuple, gInt, gAbs, dAdd, dInt, dInt0, dMul, dNeg, dCmp, dEq, dNe, dIsN, dNotN, dIn, dIx, dSl, oNone, oSome, dLst, dTup, frzAll, frzV, newL, rdL, rdM, rdT, rdD, truD, dTru, mAppend, mInsert, mExtend, mPopAt, mIndex, mCount, dIsI, cMod, cDiv, cPow, cMul, iRange1, iRange2, WB.iList, WB.iTup, iPtr, sTry, h1, hs]
  | true =>
    by_cases h3 : fs.length ≤ 6
    · have h3' : ¬ (6 : Int) < (fs.length : Int) := by omega
      cases h4 : fs.all (okF size most) with
      | true =>
        rw [h4] at e2
        simp [sSeq, sIf, sNil, sRet, sRetN, sSet, sExpr, sRaise, sBreak, sCont, sUnp, setAll, dVar, dC, dOp, dT, dB, dChain, dChain3, dAnd, dOr, dNot, dIf, dAndV, dOrV, dNotV, dCB, dCons, dNil, dCall, dMtd, gLen, gMax, gMin, gSum, gAllB, gAnyB, gSorted, gList, gTuple, gInt, gAbs, dAdd, dInt, dInt0, dMul, dNeg, dCmp, dEq, dNe, dIsN, dNotN, dIn, dIx, dSl, oNone, oSome, dLst, dTup, frzAll, frzV, newL, rdL, rdM, rdT, rdD, truD, dTru, mAppend, mInsert, mExtend, mPopAt, mIndex, mCount, dIsI, cMod, cDiv, cPow, cMul, iRange1, iRange2, WB.iList, WB.iTup, iPtr, sTry, h1, hs, h2, e1, e2, h3, h3', h4]
      | false =>
        rw [h4] at e2
        simp [sSeq, sIf, sNil, sRet, sRetN, sSet, sExpr, sRaise, sBreak, sCont, sUnp, setAll, dVar, dC, dOp, dT, dB, dChain, dChain3, dAnd, dOr, dNot, dIf, dAndV, dOrV, dNotV, dCB, dCons, dNil, dCall, dMtd, gLen, gMax, gMin, gSum, gAllB, gAnyB, gSorted, gList, gTuple, gInt, gAbs, dAdd, dInt, dInt0, dMul, dNeg, dCmp, dEq, dNe, dIsN, dNotN, dIn, dIx, dSl, oNone, oSome, dLst, dTup, frzAll, frzV, newL, rdL, rdM, rdT, rdD, truD, dTru, mAppend, mInsert, mExtend, mPopAt, mIndex, mCount, dIsI, cMod, cDiv, cPow, cMul, iRange1, iRange2, WB.iList, WB.iTup, iPtr, sTry, h1, hs, h2, e1, e2, h3, h3', h4]
    · have h3' : (6 : Int) < (fs.length : Int) := by omega
      simp [sSeq, sIf, sNil, sRet, sRetN, sSet, sExpr, sRaise, sBreak, sCont, sUnp, setAll, dVar, dC, dOp, dT, dB, dChain, dChain3, dAnd, dOr, dNot, dIf, dAndV, dOrV, dNotV, dCB, dCons, dNil, dCall, dMtd, gLen, gMax, gMin, gSum, gAllB, gAnyB, gSorted, gList, gTuple, gInt, gAbs, dAdd, dInt, dInt0, dMul, dNeg, dCmp, dEq, dNe, dIsN, dNotN, dIn, dIx, dSl, oNone, oSome, dLst, dTup, frzAll, frzV, newL, rdL, rdM, rdT, rdD, truD, dTru, mAppend, mInsert, mExtend, mPopAt, mIndex, mCount, dIsI, cMod, cDiv, cPow, cMul, iRange1, iRange2, WB.iList, WB.iTup, iPtr, sTry, h1, hs, h3, h3']
/-! ### worth_of -/
def wrI (rs : List Int) (f : Fc) : Int := if f.w = "greatest" then mxI (cutI rs (some f.a) (some (f.b + 1))) else mnI (cutI rs (some f.a) (some (f.b + 1)))
theorem wd_cases {w : Str} (h : wdB w = true) : w = "greatest" ∨ w = "least" := by
  unfold wdB at h
  simpa using h
structure OkF (size most : Int) (f : Fc) : Prop where
  w : f.w = "greatest" ∨ f.w = "least"
  a : 0 ≤ f.a
  b : f.a ≤ f.b
  s : f.b < size
  v : 0 ≤ f.v
  m : f.v ≤ most
theorem okF_iff {size most : Int} {f : Fc} : okF size most f = true ↔ OkF size most f := by
  unfold okF
  simp only [Bool.and_eq_true, decide_eq_true_eq]
  constructor
  · rintro ⟨h1, ⟨h2, h3, h4⟩, h5, h6⟩
    exact ⟨wd_cases h1, h2, h3, h4, h5, h6⟩
  · rintro ⟨h1, h2, h3, h4, h5, h6⟩
    refine ⟨?_, ⟨h2, h3, h4⟩, h5, h6⟩
    unfold wdB
    simpa using h1
theorem sg : SeqAt.shaped (.str "greatest") = true := by decide +kernel
theorem sl : SeqAt.shaped (.str "least") = true := by decide +kernel
theorem evgg : PyData.eqv (.str "greatest") (.str "greatest") = true := by decide +kernel
theorem evlg : PyData.eqv (.str "least") (.str "greatest") = false := by decide +kernel
theorem evgl : PyData.eqv (.str "greatest") (.str "least") = false := by decide +kernel
theorem evll : PyData.eqv (.str "least") (.str "least") = true := by decide +kernel
theorem lg_ne : ¬ ("least" : Str) = "greatest" := by decide +kernel
theorem gl_ne : ¬ ("greatest" : Str) = "least" := by decide +kernel
theorem worth_of_eq {size most : Int} (rs : List Int) (f : Fc) (st : List Cell) (ok : OkF size most f) (hs : size ≤ rs.length) : m_worth_of [.dat (LI rs), .dat (fcD f)] st = .ok (.dat (.int (wrI rs f))) st := by
  obtain ⟨w, a, b, v⟩ := f
  obtain ⟨h1, h2, h3, h4, h5, h6⟩ := ok
  dsimp only at h1 h2 h3 h4 h5 h6
  have hne := cutI_ne (xs := rs) (a := a) (b := b + 1) h2 (by omega) (by omega)
  obtain ⟨n, r, e⟩ := List.exists_cons_of_ne_nil hne
  unfold m_worth_of fnD b_worth_of ie1_worth_of fcD wrI
  rcases h1 with rfl | rfl
  · simp [sSeq, sIf, sNil, sRet, sRetN, sSet, sExpr, sRaise, sBreak, sCont, sUnp, setAll, dVar, dC, dOp, dT, dB, dChain, dChain3, dAnd, dOr, dNot, dIf, dAndV, dOrV, dNotV, dCB, dCons, dNil, dCall, dMtd, gLen, gMax, gMin, gSum, gAllB, gAnyB, gSorted, gList, gTuple, gInt, gAbs, dAdd, dInt, dInt0, dMul, dNeg, dCmp, dEq, dNe, dIsN, dNotN, dIn, dIx, dSl, oNone, oSome, dLst, dTup, frzAll, frzV, newL, rdL, rdM, rdT, rdD, truD, dTru, mAppend, mInsert, mExtend, mPopAt, mIndex, mCount, dIsI, cMod, cDiv, cPow, cMul, iRange1, iRange2, WB.iList, WB.iTup, iPtr, sTry, at4_0, at4_1, at4_2, at4_3, cutD_ints, sg, sl, evgg, evlg, e, asInts_cons]
  · simp [sSeq, sIf, sNil, sRet, sRetN, sSet, sExpr, sRaise, sBreak, sCont, sUnp, setAll, dVar, dC, dOp, dT, dB, dChain, dChain3, dAnd, dOr, dNot, dIf, dAndV, dOrV, dNotV, dCB, dCons, dNil, dCall, dMtd, gLen, gMax, gMin, gSum, gAllB, gAnyB, gSorted, gList, gTuple, gInt, gAbs, dAdd, dInt, dInt0, dMul, dNeg, dCmp, dEq, dNe, dIsN, dNotN, dIn, dIx, dSl, oNone, oSome, dLst, dTup, frzAll, frzV, newL, rdL, rdM, rdT, rdD, truD, dTru, mAppend, mInsert, mExtend, mPopAt, mIndex, mCount, dIsI, cMod, cDiv, cPow, cMul, iRange1, iRange2, WB.iList, WB.iTup, iPtr, sTry, at4_0, at4_1, at4_2, at4_3, cutD_ints, sg, sl, evgg, evlg, lg_ne, e, asInts_cons]
end PG

set_option maxRecDepth 100000
set_option maxHeartbeats 4000000
namespace PG
open PySem PySem.Spec PyProof.Rows WB
open L2 (atI ixN atI_nat)
theorem cut_nat {rs : List Int} {a b : Nat} (h : a ≤ b) (hb : b ≤ rs.length) : cutI rs (some (a : Int)) (some (b : Int)) = (rs.drop a).take (b - a) := by
  unfold cutI
  rw [HT.sIx_nat, HT.sIx_nat, Nat.min_eq_left (by omega : a ≤ rs.length), Nat.min_eq_left hb]
theorem mem_cut {rs : List Int} {a b : Nat} (h : a ≤ b) (hb : b ≤ rs.length) {y : Int} : y ∈ cutI rs (some (a : Int)) (some (b : Int)) ↔ ∃ j, a ≤ j ∧ j < b ∧ y = gR rs j := by
  rw [cut_nat h hb]
  constructor
  · intro hy
    obtain ⟨i, hi, e⟩ := List.mem_iff_getElem.mp hy
    simp only [List.length_take, List.length_drop] at hi
    rw [List.getElem_take, List.getElem_drop] at e
    refine ⟨a + i, by omega, by omega, ?_⟩
    unfold gR
    rw [← e]
    simp [List.getD, List.getElem?_eq_getElem (show a + i < rs.length by omega)]
  · rintro ⟨j, h1, h2, rfl⟩
    refine List.mem_iff_getElem.mpr ⟨j - a, by simp only [List.length_take, List.length_drop]; omega, ?_⟩
    rw [List.getElem_take, List.getElem_drop]
    unfold gR
    have e : a + (j - a) = j := by omega
    simp [List.getD, e, List.getElem?_eq_getElem (show j < rs.length by omega)]
/-- what _law_worth keeps between its turns -/
def WInv (g : Bool) (rs : List Int) (a i : Nat) (z : Int) : Prop := (∃ j, j < max i 1 ∧ z = gR rs (a + j)) ∧ ∀ j, j < i → if g = true then gR rs (a + j) ≤ z else z ≤ gR rs (a + j)
theorem law_worth_eq {size most : Int} (rs : List Int) (f : Fc) (st : List Cell) (ok : OkF size most f) (hs : size ≤ rs.length) (hl : rs.length ≤ 1000) : m__law_worth [.dat (LI rs), .dat (fcD f)] st = .ok (.dat (.int (wrI rs f))) st := by
  obtain ⟨w, a, b, v⟩ := f
  obtain ⟨h1, h2, h3, h4, h5, h6⟩ := ok
  dsimp only at h1 h2 h3 h4 h5 h6
  obtain ⟨a, rfl⟩ := Int.eq_ofNat_of_zero_le h2
  obtain ⟨b, rfl⟩ := Int.eq_ofNat_of_zero_le (show (0 : Int) ≤ b by omega)
  obtain ⟨g, hg1, hg2, hg3⟩ : ∃ g : Bool, (g = decide (w = "greatest")) ∧ SeqAt.shaped (.str w) = true ∧ PyData.eqv (.str w) (.str "greatest") = g := by
    rcases h1 with rfl | rfl
    · exact ⟨true, rfl, sg, evgg⟩
    · exact ⟨false, by simp [lg_ne], sl, evlg⟩
  have hn : ((b : Int) + 1 - a).toNat = b + 1 - a := by omega
  obtain ⟨δ', st', e1, z, x, e2, e3, hz⟩ := forL_inv (g := tgN 3) (f := fo1__law_worth_b) (fun i δ s => ∃ z x, δ = [.dat (LI rs), .dat (fcD ⟨w, a, b, v⟩), .dat (.int z), x] ∧ s = st ∧ WInv g rs a i z) (rngD (a : Int) (b + 1 - a)) 0
    [.dat (LI rs), .dat (fcD ⟨w, a, b, v⟩), .dat (.int (gR rs a)), .un] st (fun i d e δ s hI => by
      obtain ⟨z, x, rfl, rfl, ⟨⟨j0, hj0, hz0⟩, hz⟩⟩ := hI
      obtain ⟨hi, rfl⟩ := rngD_get e
      have e3 := at_row (rs := rs) (j := a + i) (by omega)
      have e4 : ((a + i : Nat) : Int) = (a : Int) + (i : Nat) := by omega
      rw [e4] at e3
      rw [Nat.zero_add] at hj0 hz ⊢
      have step : ∃ z', fo1__law_worth_b [.dat (LI rs), .dat (fcD ⟨w, a, b, v⟩), .dat (.int z), .dat (.int ((a : Int) + (i : Nat)))] s = .nx [.dat (LI rs), .dat (fcD ⟨w, a, b, v⟩), .dat (.int z'), .dat (.int ((a : Int) + (i : Nat)))] s ∧ WInv g rs a (i + 1) z' := by
        unfold fo1__law_worth_b fcD
        by_cases hc : (decide (z < gR rs (a + i))) = g
        · refine ⟨gR rs (a + i), ?_, ⟨i, by omega, rfl⟩, fun j hj => ?_⟩
          · simp [sSeq, sIf, sNil, sRet, sRetN, sSet, sExpr, sRaise, sBreak, sCont, sUnp, setAll, dVar, dC, dOp, dT, dB, dChain, dChain3, dAnd, dOr, dNot, dIf, dAndV, dOrV, dNotV, dCB, dCons, dNil, dCall, dMtd, gLen, gMax, gMin, gSum, gAllB, gAnyB, gSorted, gList, gTuple, gInt, gAbs, dAdd, dInt, dInt0, dMul, dNeg, dCmp, dEq, dNe, dIsN, dNotN, dIn, dIx, dSl, oNone, oSome, dLst, dTup, frzAll, frzV, newL, rdL, rdM, rdT, rdD, truD, dTru, mAppend, mInsert, mExtend, mPopAt, mIndex, mCount, dIsI, cMod, cDiv, cPow, cMul, iRange1, iRange2, WB.iList, WB.iTup, iPtr, sTry, at4_0, e3, sg, hg2, hg3, hc]
            done
          · by_cases hji : j = i
            · subst hji; split <;> exact Int.le_refl _
            · have := hz j (by omega)
              cases g with
              | true => simp at this hc ⊢; omega
              | false => simp at this hc ⊢; omega
        · refine ⟨z, ?_, ⟨j0, by omega, hz0⟩, fun j hj => ?_⟩
          · simp [sSeq, sIf, sNil, sRet, sRetN, sSet, sExpr, sRaise, sBreak, sCont, sUnp, setAll, dVar, dC, dOp, dT, dB, dChain, dChain3, dAnd, dOr, dNot, dIf, dAndV, dOrV, dNotV, dCB, dCons, dNil, dCall, dMtd, gLen, gMax, gMin, gSum, gAllB, gAnyB, gSorted, gList, gTuple, gInt, gAbs, dAdd, dInt, dInt0, dMul, dNeg, dCmp, dEq, dNe, dIsN, dNotN, dIn, dIx, dSl, oNone, oSome, dLst, dTup, frzAll, frzV, newL, rdL, rdM, rdT, rdD, truD, dTru, mAppend, mInsert, mExtend, mPopAt, mIndex, mCount, dIsI, cMod, cDiv, cPow, cMul, iRange1, iRange2, WB.iList, WB.iTup, iPtr, sTry, at4_0, e3, sg, hg2, hg3, hc]
            done
          · by_cases hji : j = i
            · subst hji
              cases g with
              | true => simp at hc ⊢; omega
              | false => simp at hc ⊢; omega
            · exact hz j (by omega)
      obtain ⟨z', q1, q2⟩ := step
      exact ⟨_, _, _, rfl, q1, z', _, rfl, rfl, q2⟩) ⟨gR rs a, .un, rfl, rfl, ⟨0, by omega, by simp⟩, fun j hj => by omega⟩
  rw [rngD_len, Nat.zero_add] at hz
  have hfin : z = wrI rs ⟨w, a, b, v⟩ := by
    obtain ⟨⟨j, hj, hzj⟩, hz⟩ := hz
    have hm : z ∈ cutI rs (some (a : Int)) (some ((b + 1 : Nat) : Int)) := (mem_cut (by omega) (by omega)).mpr ⟨a + j, by omega, by omega, hzj⟩
    have hb1 : ((b + 1 : Nat) : Int) = (b : Int) + 1 := by omega
    unfold wrI
    dsimp only
    rw [← hb1]
    rcases h1 with rfl | rfl
    · rw [if_pos rfl]
      have : g = true := by rw [hg1]; rfl
      refine mxI_eq hm fun y hy => ?_
      obtain ⟨k, k1, k2, rfl⟩ := (mem_cut (by omega) (by omega)).mp hy
      have := hz (k - a) (by omega)
      rw [‹g = true›, if_pos rfl, show a + (k - a) = k by omega] at this
      exact this
    · rw [if_neg lg_ne]
      have : g = false := by rw [hg1]; simp [lg_ne]
      refine mnI_eq hm fun y hy => ?_
      obtain ⟨k, k1, k2, rfl⟩ := (mem_cut (by omega) (by omega)).mp hy
      have := hz (k - a) (by omega)
      rw [‹g = false›, if_neg (by simp), show a + (k - a) = k by omega] at this
      exact this
  have hR1 : InRg (a : Int) := inRg_nat (by omega)
  have hR2 : InRg ((b : Int) + 1) := inRg_small (by omega) (by omega)
  have ea := at_row (rs := rs) (j := a) (by omega)
  have e0 : fo1__law_worth [.dat (LI rs), .dat (fcD ⟨w, a, b, v⟩), .dat (.int (gR rs a)), .un] st = .nx δ' st' := by
    unfold fo1__law_worth sFor
    have hi : iRange2 (dCons (dOp dIx (dVar 1) (dC (.int 1))) (dCons (dOp (dAdd false) (dOp dIx (dVar 1) (dC (.int 2))) (dC (.int 1))) dNil)) [.dat (LI rs), .dat (fcD ⟨w, a, b, v⟩), .dat (.int (gR rs a)), .un] st = .ok (rngD (a : Int) (b + 1 - a)) st := by
      unfold fcD
      simp [sSeq, sIf, sNil, sRet, sRetN, sSet, sExpr, sRaise, sBreak, sCont, sUnp, setAll, dVar, dC, dOp, dT, dB, dChain, dChain3, dAnd, dOr, dNot, dIf, dAndV, dOrV, dNotV, dCB, dCons, dNil, dCall, dMtd, gLen, gMax, gMin, gSum, gAllB, gAnyB, gSorted, gList, gTuple, gInt, gAbs, dAdd, dInt, dInt0, dMul, dNeg, dCmp, dEq, dNe, dIsN, dNotN, dIn, dIx, dSl, oNone, oSome, dLst, dTup, frzAll, frzV, newL, rdL, rdM, rdT, rdD, truD, dTru, mAppend, mInsert, mExtend, mPopAt, mIndex, mCount, dIsI, cMod, cDiv, cPow, cMul, iRange1, iRange2, WB.iList, WB.iTup, iPtr, sTry, at4_1, at4_2, hR1, hR2, hn]
    rw [hi, sr_ok]
    exact e1
  rw [e2, e3, hfin] at e0
  unfold m__law_worth fnD b__law_worth
  unfold fcD at e0 ⊢
  simp [sSeq, sIf, sNil, sRet, sRetN, sSet, sExpr, sRaise, sBreak, sCont, sUnp, setAll, dVar, dC, dOp, dT, dB, dChain, dChain3, dAnd, dOr, dNot, dIf, dAndV, dOrV, dNotV, dCB, dCons, dNil, dCall, dMtd, gLen, gMax, gMin, gSum, gAllB, gAnyB, gSorted, gList, gTuple, gInt, gAbs, dAdd, dInt, dInt0, dMul, dNeg, dCmp, dEq, dNe, dIsN, dNotN, dIn, dIx, dSl, oNone, oSome, dLst, dTup, frzAll, frzV, newL, rdL, rdM, rdT, rdD, truD, dTru, mAppend, mInsert, mExtend, mPopAt, mIndex, mCount, dIsI, cMod, cDiv, cPow, cMul, iRange1, iRange2, WB.iList, WB.iTup, iPtr, sTry, at4_1, ea, e0]
end PG

set_option maxRecDepth 100000
set_option maxHeartbeats 4000000
namespace PG
open PySem PySem.Spec PyProof.Rows WB
open L2 (atI ixN atI_nat)
theorem law_fact_ok (ns : List Int) (t c : Nat) (size most : Int) (st : List Cell) (hs : 0 < size) (hm : 0 ≤ most) (ht : st[t]? = some (tw c)) (hc : c < 90000) :
    ∃ f, m__law_fact [.scr ns, .ptr t, .dat (.int size), .dat (.int most)] st = .ok (.dat (fcD f)) (st.set t (tw (c + 5))) ∧ OkF size most f := by
  have hlt : t < st.length := (List.getElem?_eq_some_iff.mp ht).1
  have hg : ∀ x, (st.set t x)[t]? = some x := fun x => List.getElem?_set_self hlt
  obtain ⟨v, hv, v0, v1⟩ := draw_ok ns t c size st hs ht (by omega)
  obtain ⟨x, hx, hp⟩ := pick_ok ns t (c + 1) [.int 1, .int 2, .int 3, .int size] (st.set t (tw (c + 1))) (by simp) (hg _) (by omega)
  obtain ⟨xv, rfl, x0⟩ : ∃ xv, x = .int xv ∧ 0 < xv := by
    simp only [List.mem_cons, List.mem_nil_iff, or_false] at hx
    rcases hx with rfl | rfl | rfl | rfl
    · exact ⟨1, rfl, by decide⟩
    · exact ⟨2, rfl, by decide⟩
    · exact ⟨3, rfl, by decide⟩
    · exact ⟨size, rfl, hs⟩
  rw [List.set_set] at hp
  obtain ⟨y, hy, y0, y1⟩ := draw_ok ns t (c + 2) xv (st.set t (tw (c + 2))) x0 (hg _) (by omega)
  rw [List.set_set] at hy
  obtain ⟨u, hu, hq⟩ := pick_ok ns t (c + 3) [.str "greatest", .str "least"] (st.set t (tw (c + 3))) (by simp) (hg _) (by omega)
  rw [List.set_set] at hq
  obtain ⟨w, rfl, hw⟩ : ∃ w, u = .str w ∧ (w = "greatest" ∨ w = "least") := by
    simp only [List.mem_cons, List.mem_nil_iff, or_false] at hu
    rcases hu with rfl | rfl
    · exact ⟨_, rfl, .inl rfl⟩
    · exact ⟨_, rfl, .inr rfl⟩
  obtain ⟨z, hz, z0, z1⟩ := draw_ok ns t (c + 4) (most + 1) (st.set t (tw (c + 4))) (by omega) (hg _) (by omega)
  rw [List.set_set] at hz
  refine ⟨⟨w, v, if v + y < size - 1 then v + y else size - 1, z⟩, ?_, hw, v0, ?_, ?_, z0, by show z ≤ most; omega⟩
  · unfold m__law_fact fnD b__law_fact fcD
    simp [sSeq, sIf, sNil, sRet, sRetN, sSet, sExpr, sRaise, sBreak, sCont, sUnp, setAll, dVar, dC, dOp, dT, dB, dChain, dChain3, dAnd, dOr, dNot, dIf, dAndV, dOrV, dNotV, dCB, dCons, dNil, dCall, dMtd, gLen, gMax, gMin, gSum, gAllB, gAnyB, gSorted, gList, gTuple, gInt, gAbs, dAdd, dInt, dInt0, dMul, dNeg, dCmp, dEq, dNe, dIsN, dNotN, dIn, dIx, dSl, oNone, oSome, dLst, dTup, frzAll, frzV, newL, rdL, rdM, rdT, rdD, truD, dTru, mAppend, mInsert, mExtend, mPopAt, mIndex, mCount, dIsI, cMod, cDiv, cPow, cMul, iRange1, iRange2, WB.iList, WB.iTup, iPtr, sTry, hv, hp, hy, hq, hz, gMin2]
  · show v ≤ if v + y < size - 1 then v + y else size - 1
    split <;> omega
  · show (if v + y < size - 1 then v + y else size - 1) < size
    split <;> omega
end PG

set_option maxRecDepth 100000
set_option maxHeartbeats 4000000
namespace PG
open PySem PySem.Spec PyProof.Rows WB
open L2 (atI ixN atI_nat)
section
variable {st : List Cell} {t : Nat} {x y m m' : Cell}
theorem sa_get (h : t < st.length) : (st.set t x ++ [m])[t]? = some x := by rw [List.getElem?_append_left (by simpa using h), List.getElem?_set_self h]
theorem sa_set (h : t < st.length) : (st.set t x ++ [m]).set t y = st.set t y ++ [m] := by rw [List.set_append_left _ _ (by simpa using h), List.set_set]
theorem sa_last : (st.set t x ++ [m])[st.length]? = some m := by rw [List.getElem?_append_right (by simp)]; simp
theorem sa_put : (st.set t x ++ [m]).set st.length m' = st.set t x ++ [m'] := by rw [List.set_append_right _ _ (by simp)]; simp
theorem sa_take : (st.set t x ++ [m]).take st.length = st.set t x := by
  have : st.length = (st.set t x).length := by simp
  rw [this, List.take_left]
end
theorem cut3 {p q r s : PyData} : WB.cutD [p, q, r, s] none (some 3) = [p, q, r] := rfl
theorem wrI_mem {size most : Int} {rs : List Int} {f : Fc} (ok : OkF size most f) (hs : size ≤ rs.length) : wrI rs f ∈ rs := by
  have hne := cutI_ne (xs := rs) (a := f.a) (b := f.b + 1) ok.a (by have := ok.b; omega) (by have := ok.b; have := ok.s; omega)
  have hsub : ∀ y, y ∈ cutI rs (some f.a) (some (f.b + 1)) → y ∈ rs := fun y hy => by
    unfold cutI at hy
    exact List.mem_of_mem_drop (List.mem_of_mem_take hy)
  unfold wrI
  split
  · exact hsub _ (mxI_mem hne)
  · exact hsub _ (mnI_mem hne)
theorem told_of_ok (ns : List Int) (t c : Nat) (size most count : Int) (st : List Cell) (hs : 0 < size) (hs2 : size ≤ 8) (hm : 0 ≤ most) (hk : 0 ≤ count) (hk2 : count ≤ 6) (ht : st[t]? = some (tw c)) (hc : c < 50000) :
    ∃ (fs : List Fc) (c' : Nat), m__law_told_of [.scr ns, .ptr t, .dat (.int size), .dat (.int most), .dat (.int count)] st = .ok (.dat (LF fs)) (st.set t (tw c')) ∧ (∀ f ∈ fs, OkF size most f) ∧ (fs.length : Int) ≤ count ∧ c' ≤ c + 100 := by
  have hlt : t < st.length := (List.getElem?_eq_some_iff.mp ht).1
  have hr : InRg size := inRg_small (by omega) (by omega)
  obtain ⟨ys, q1, q2, q3⟩ := lcL_draw (h := tgN 7) (fe := lc1__law_told_of_e) (δ := [.scr ns, .ptr t, .dat (.int size), .dat (.int most), .dat (.int count), .un, .un, .un, .un]) (P := fun y => ∃ z, y = .int z ∧ 0 ≤ z ∧ z ≤ most) (t := t) (n := st.length) (B := 60000) hlt (rngD 0 size.toNat) [] c st rfl ht
    (fun d hd => ⟨[.scr ns, .ptr t, .dat (.int size), .dat (.int most), .dat (.int count), .un, .un, .dat d, .un], rfl, fun st c hc hcB => by
      obtain ⟨z, hz, z0, z1⟩ := draw_ok ns t c (most + 1) st (by omega) hc (by omega)
      refine ⟨.int z, ?_, z, rfl, z0, by omega⟩
      unfold lc1__law_told_of_e
      simp [sSeq, sIf, sNil, sRet, sRetN, sSet, sExpr, sRaise, sBreak, sCont, sUnp, setAll, dVar, dC, dOp, dT, dB, dChain, dChain3, dAnd, dOr, dNot, dIf, dAndV, dOrV, dNotV, dCB, dCons, dNil, dCall, dMtd, gLen, gMax, gMin, gSum, gAllB, gAnyB, gSorted, gList, gTuple, gInt, gAbs, dAdd, dInt, dInt0, dMul, dNeg, dCmp, dEq, dNe, dIsN, dNotN, dIn, dIx, dSl, oNone, oSome, dLst, dTup, frzAll, frzV, newL, rdL, rdM, rdT, rdD, truD, dTru, mAppend, mInsert, mExtend, mPopAt, mIndex, mCount, dIsI, cMod, cDiv, cPow, cMul, iRange1, iRange2, WB.iList, WB.iTup, iPtr, sTry, hz]⟩) (by rw [rngD_len]; omega) (by rw [rngD_len]; simp; omega)
  obtain ⟨rs, rfl, hrs⟩ := ints_of q3
  rw [rngD_len] at q2 q1
  rw [List.length_map] at q2
  have hlc : lc1__law_told_of [.scr ns, .ptr t, .dat (.int size), .dat (.int most), .dat (.int count), .un, .un, .un, .un] st = .ok (.dat (LI rs)) (st.set t (tw (c + size.toNat))) := by
    unfold lc1__law_told_of dLc
    have hi : iRange1 (dCons (dVar 2) dNil) [.scr ns, .ptr t, .dat (.int size), .dat (.int most), .dat (.int count), .un, .un, .un, .un] st = .ok (rngD 0 size.toNat) st := by
      simp [sSeq, sIf, sNil, sRet, sRetN, sSet, sExpr, sRaise, sBreak, sCont, sUnp, setAll, dVar, dC, dOp, dT, dB, dChain, dChain3, dAnd, dOr, dNot, dIf, dAndV, dOrV, dNotV, dCB, dCons, dNil, dCall, dMtd, gLen, gMax, gMin, gSum, gAllB, gAnyB, gSorted, gList, gTuple, gInt, gAbs, dAdd, dInt, dInt0, dMul, dNeg, dCmp, dEq, dNe, dIsN, dNotN, dIn, dIx, dSl, oNone, oSome, dLst, dTup, frzAll, frzV, newL, rdL, rdM, rdT, rdD, truD, dTru, mAppend, mInsert, mExtend, mPopAt, mIndex, mCount, dIsI, cMod, cDiv, cPow, cMul, iRange1, iRange2, WB.iList, WB.iTup, iPtr, sTry, hr]
    rw [hi, bd_ok]
    show (lcL (tgN 7) tYesF lc1__law_told_of_e st.length (rngD 0 size.toNat) [] [.scr ns, .ptr t, .dat (.int size), .dat (.int most), .dat (.int count), .un, .un, .un, .un] st).bx _ = _
    rw [q1, bx_ok]
    rfl
  obtain ⟨n, hn, n0, n1⟩ := draw_ok ns t (c + size.toNat) (count + 1) (st.set t (tw (c + size.toNat)) ++ [.mu []]) (by omega) (sa_get hlt) (by omega)
  rw [sa_set hlt] at hn
  have hnr : InRg n := inRg_small (by omega) (by omega)
  obtain ⟨δ', st', e1, fs, c', x7, x8, e2, e3, hf, hl, hc'⟩ := forL_inv (g := tgN 7) (f := fo2__law_told_of_b) (fun i δ s => ∃ (fs : List Fc) (c' : Nat) (x7 x8 : DV), δ = [.scr ns, .ptr t, .dat (.int size), .dat (.int most), .dat (.int count), .dat (LI rs), .ptr st.length, x7, x8] ∧ s = st.set t (tw c') ++ [.mu (fs.map fcD)] ∧ (∀ f ∈ fs, OkF size most f) ∧ fs.length = i ∧ c' = c + size.toNat + 1 + 6 * i) (rngD 0 n.toNat) 0
    [.scr ns, .ptr t, .dat (.int size), .dat (.int most), .dat (.int count), .dat (LI rs), .ptr st.length, .un, .un] (st.set t (tw (c + size.toNat + 1)) ++ [.mu []]) (fun i d e δ s hI => by
      obtain ⟨fs, c', x7, x8, rfl, rfl, hf, hl, hc'⟩ := hI
      obtain ⟨hi, rfl⟩ := rngD_get e
      obtain ⟨f, hf1, okf⟩ := law_fact_ok ns t c' size most (st.set t (tw c') ++ [.mu (fs.map fcD)]) hs hm (sa_get hlt) (by omega)
      rw [sa_set hlt] at hf1
      obtain ⟨z, hz, z0, z1⟩ := draw_ok ns t (c' + 5) 5 (st.set t (tw (c' + 5)) ++ [.mu (fs.map fcD)]) (by decide) (sa_get hlt) (by omega)
      rw [sa_set hlt] at hz
      have hw := law_worth_eq rs f (st.set t (tw (c' + 6)) ++ [.mu (fs.map fcD)]) okf (by omega) (by omega)
      have hlst : (st.set t (tw (c' + 6)) ++ [Cell.mu (fs.map fcD)])[st.length]? = some (.mu (fs.map fcD)) := sa_last
      have hput : ∀ m', (st.set t (tw (c' + 6)) ++ [Cell.mu (fs.map fcD)]).set st.length m' = st.set t (tw (c' + 6)) ++ [m'] := fun _ => sa_put
      have hlen : (fs.map fcD).length < 1000000 := by rw [List.length_map]; omega
      obtain ⟨f', okf', hb⟩ : ∃ f', OkF size most f' ∧ fo2__law_told_of_b [.scr ns, .ptr t, .dat (.int size), .dat (.int most), .dat (.int count), .dat (LI rs), .ptr st.length, .dat (.int (0 + (i : Nat))), x8] (st.set t (tw c') ++ [.mu (fs.map fcD)]) = .nx [.scr ns, .ptr t, .dat (.int size), .dat (.int most), .dat (.int count), .dat (LI rs), .ptr st.length, .dat (.int (0 + (i : Nat))), .dat (fcD f')] (st.set t (tw (c' + 6)) ++ [.mu (fs.map fcD ++ [fcD f'])]) := by
        by_cases h0 : 0 < z
        · refine ⟨⟨f.w, f.a, f.b, wrI rs f⟩, ⟨okf.w, okf.a, okf.b, okf.s, ?_, ?_⟩, ?_⟩
          · exact (hrs _ (wrI_mem okf (by omega))).1
          · exact (hrs _ (wrI_mem okf (by omega))).2
          · generalize fs.map fcD = ds at hf1 hz hw hlst hput hlen ⊢
            unfold fo2__law_told_of_b
            unfold fcD at hf1 hw ⊢
            simp [sSeq, sIf, sNil, sRet, sRetN, sSet, sExpr, sRaise, sBreak, sCont, sUnp, setAll, dVar, dC, dOp, dT, dB, dChain, dChain3, dAnd, dOr, dNot, dIf, dAndV, dOrV, dNotV, dCB, dCons, dNil, dCall, dMtd, gLen, gMax, gMin, gSum, gAllB, gAnyB, gSorted, gList, gTuple, gInt, gAbs, dAdd, dInt, dInt0, dMul, dNeg, dCmp, dEq, dNe, dIsN, dNotN, dIn, dIx, dSl, oNone, oSome, dLst, dTup, frzAll, frzV, newL, rdL, rdM, rdT, rdD, truD, dTru, mAppend, mInsert, mExtend, mPopAt, mIndex, mCount, dIsI, cMod, cDiv, cPow, cMul, iRange1, iRange2, WB.iList, WB.iTup, iPtr, sTry, hf1, hz, h0, hw, hlst, hput, hlen, dSlT, cut3]
            done
        · refine ⟨f, okf, ?_⟩
          generalize fs.map fcD = ds at hf1 hz hw hlst hput hlen ⊢
          unfold fo2__law_told_of_b
          simp [sSeq, sIf, sNil, sRet, sRetN, sSet, sExpr, sRaise, sBreak, sCont, sUnp, setAll, dVar, dC, dOp, dT, dB, dChain, dChain3, dAnd, dOr, dNot, dIf, dAndV, dOrV, dNotV, dCB, dCons, dNil, dCall, dMtd, gLen, gMax, gMin, gSum, gAllB, gAnyB, gSorted, gList, gTuple, gInt, gAbs, dAdd, dInt, dInt0, dMul, dNeg, dCmp, dEq, dNe, dIsN, dNotN, dIn, dIx, dSl, oNone, oSome, dLst, dTup, frzAll, frzV, newL, rdL, rdM, rdT, rdD, truD, dTru, mAppend, mInsert, mExtend, mPopAt, mIndex, mCount, dIsI, cMod, cDiv, cPow, cMul, iRange1, iRange2, WB.iList, WB.iTup, iPtr, sTry, hf1, hz, h0, hlst, hput, hlen]
          done
      refine ⟨_, _, _, rfl, hb, fs ++ [f'], c' + 6, _, _, rfl, by rw [List.map_append]; rfl, fun g hg => ?_, by rw [List.length_append]; simp; omega, by omega⟩
      rcases List.mem_append.mp hg with hg | hg
      · exact hf g hg
      · rw [List.mem_singleton] at hg; rw [hg]; exact okf') ⟨[], c + size.toNat + 1, .un, .un, rfl, rfl, by simp, rfl, rfl⟩
  rw [rngD_len, Nat.zero_add] at hl hc'
  refine ⟨fs, c', ?_, hf, by omega, by omega⟩
  have hfo : fo2__law_told_of [.scr ns, .ptr t, .dat (.int size), .dat (.int most), .dat (.int count), .dat (LI rs), .ptr st.length, .un, .un] (st.set t (tw (c + size.toNat)) ++ [.mu []]) = .nx δ' st' := by
    unfold fo2__law_told_of sFor
    have hi : iRange1 (dCons (dCall 3 m__law_draw (dCons (dVar 0) (dCons (dVar 1) (dCons (dOp (dAdd false) (dVar 4) (dC (.int 1))) dNil)))) dNil) [.scr ns, .ptr t, .dat (.int size), .dat (.int most), .dat (.int count), .dat (LI rs), .ptr st.length, .un, .un] (st.set t (tw (c + size.toNat)) ++ [.mu []]) = .ok (rngD 0 n.toNat) (st.set t (tw (c + size.toNat + 1)) ++ [.mu []]) := by
      simp [sSeq, sIf, sNil, sRet, sRetN, sSet, sExpr, sRaise, sBreak, sCont, sUnp, setAll, dVar, dC, dOp, dT, dB, dChain, dChain3, dAnd, dOr, dNot, dIf, dAndV, dOrV, dNotV, dCB, dCons, dNil, dCall, dMtd, gLen, gMax, gMin, gSum, gAllB, gAnyB, gSorted, gList, gTuple, gInt, gAbs, dAdd, dInt, dInt0, dMul, dNeg, dCmp, dEq, dNe, dIsN, dNotN, dIn, dIx, dSl, oNone, oSome, dLst, dTup, frzAll, frzV, newL, rdL, rdM, rdT, rdD, truD, dTru, mAppend, mInsert, mExtend, mPopAt, mIndex, mCount, dIsI, cMod, cDiv, cPow, cMul, iRange1, iRange2, WB.iList, WB.iTup, iPtr, sTry, hn, hnr]
    rw [hi, sr_ok]
    exact e1
  rw [e2, e3] at hfo
  have hlst : (st.set t (tw c') ++ [Cell.mu (fs.map fcD)])[st.length]? = some (.mu (fs.map fcD)) := sa_last
  have htk : (st.set t (tw c') ++ [Cell.mu (fs.map fcD)]).take st.length = st.set t (tw c') := sa_take
  unfold m__law_told_of fnD b__law_told_of
  simp [sSeq, sIf, sNil, sRet, sRetN, sSet, sExpr, sRaise, sBreak, sCont, sUnp, setAll, dVar, dC, dOp, dT, dB, dChain, dChain3, dAnd, dOr, dNot, dIf, dAndV, dOrV, dNotV, dCB, dCons, dNil, dCall, dMtd, gLen, gMax, gMin, gSum, gAllB, gAnyB, gSorted, gList, gTuple, gInt, gAbs, dAdd, dInt, dInt0, dMul, dNeg, dCmp, dEq, dNe, dIsN, dNotN, dIn, dIx, dSl, oNone, oSome, dLst, dTup, frzAll, frzV, newL, rdL, rdM, rdT, rdD, truD, dTru, mAppend, mInsert, mExtend, mPopAt, mIndex, mCount, dIsI, cMod, cDiv, cPow, cMul, iRange1, iRange2, WB.iList, WB.iTup, iPtr, sTry, hlc, hfo, exitV, hlst, htk]
end PG

set_option maxRecDepth 100000
set_option maxHeartbeats 4000000
namespace PG
open PySem PySem.Spec PyProof.Rows WB
open L2 (atI ixN atI_nat)
def fc0 : Fc := ⟨"least", 0, 0, 0⟩
def gF (fs : List Fc) (k : Nat) : Fc := fs.getD k fc0
theorem gF_get {fs : List Fc} {k : Nat} (h : k < fs.length) : fs[k]? = some (gF fs k) := by
  unfold gF
  rw [List.getD_eq_getElem?_getD, List.getElem?_eq_getElem h]; rfl
theorem gF_mem {fs : List Fc} {k : Nat} (h : k < fs.length) : gF fs k ∈ fs := List.mem_of_getElem? (gF_get h)
theorem at_fact {fs : List Fc} {k : Nat} (h : k < fs.length) : atI (fs.map fcD) ((k : Nat) : Int) = some (fcD (gF fs k)) :=
  atI_nat (by rw [List.getElem?_map, gF_get h]; rfl)
def brk (rs : List Int) (fs : List Fc) : List Nat := (List.range fs.length).filter fun k => decide (wrI rs (gF fs k) ≠ (gF fs k).v)
abbrev LN (ks : List Nat) : PyData := .list (ks.map fun k => PyData.int (k : Nat))
def inB (most v : Int) : Bool := decide (0 ≤ v) && decide (v ≤ most)
def rofB (size most : Int) (rs : List Int) : Bool := decide ((rs.length : Int) = size) && rs.all (inB most)
theorem is_row_of_eq (size most : Int) (rs : List Int) (st : List Cell) (hl : rs.length ≤ 1000000) : m_is_row_of [.dat (.int size), .dat (.int most), .dat (LI rs)] st = .ok (.dat (.bool (rofB size most rs))) st := by
  have h1 : lc1_is_row_of [.dat (.int size), .dat (.int most), .dat (LI rs), .un] st = .ok (.dat (.list ((rs.map (inB most)).map PyData.bool))) st := by
    unfold lc1_is_row_of
    rw [dLc_encM PyData.int rs (fun v => .bool (inB most v)) (by simp [sSeq, sIf, sNil, sRet, sRetN, sSet, sExpr, sRaise, sBreak, sCont, sUnp, setAll, dVar, dC, dOp, dT, dB, dChain, dChain3, dAnd, dOr, dNot, dIf, dAndV, dOrV, dNotV, dCB, dCons, dNil, dCall, dMtd, gLen, gMax, gMin, gSum, gAllB, gAnyB, gSorted, gList, gTuple, gInt, gAbs, dAdd, dInt, dInt0, dMul, dNeg, dCmp, dEq, dNe, dIsN, dNotN, dIn, dIx, dSl, oNone, oSome, dLst, dTup, frzAll, frzV, newL, rdL, rdM, rdT, rdD, truD, dTru, mAppend, mInsert, mExtend, mPopAt, mIndex, mCount, dIsI, cMod, cDiv, cPow, cMul, iRange1, iRange2, WB.iList, WB.iTup, iPtr, sTry]) (fun v _ => ?_) hl]
    · rw [List.map_map]; rfl
    · refine ⟨[.dat (.int size), .dat (.int most), .dat (LI rs), .dat (.int v)], rfl, fun st => ?_⟩
      unfold lc1_is_row_of_e inB
      by_cases h : 0 ≤ v
      · simp [sSeq, sIf, sNil, sRet, sRetN, sSet, sExpr, sRaise, sBreak, sCont, sUnp, setAll, dVar, dC, dOp, dT, dB, dChain, dChain3, dAnd, dOr, dNot, dIf, dAndV, dOrV, dNotV, dCB, dCons, dNil, dCall, dMtd, gLen, gMax, gMin, gSum, gAllB, gAnyB, gSorted, gList, gTuple, gInt, gAbs, dAdd, dInt, dInt0, dMul, dNeg, dCmp, dEq, dNe, dIsN, dNotN, dIn, dIx, dSl, oNone, oSome, dLst, dTup, frzAll, frzV, newL, rdL, rdM, rdT, rdD, truD, dTru, mAppend, mInsert, mExtend, mPopAt, mIndex, mCount, dIsI, cMod, cDiv, cPow, cMul, iRange1, iRange2, WB.iList, WB.iTup, iPtr, sTry, h]
      · simp [sSeq, sIf, sNil, sRet, sRetN, sSet, sExpr, sRaise, sBreak, sCont, sUnp, setAll, dVar, dC, dOp, dT, dB, dChain, dChain3, dAnd, dOr, dNot, dIf, dAndV, dOrV, dNotV, dCB, dCons, dNil, dCall, dMtd, gLen, gMax, gMin, gSum, gAllB, gAnyB, gSorted, gList, gTuple, gInt, gAbs, dAdd, dInt, dInt0, dMul, dNeg, dCmp, dEq, dNe, dIsN, dNotN, dIn, dIx, dSl, oNone, oSome, dLst, dTup, frzAll, frzV, newL, rdL, rdM, rdT, rdD, truD, dTru, mAppend, mInsert, mExtend, mPopAt, mIndex, mCount, dIsI, cMod, cDiv, cPow, cMul, iRange1, iRange2, WB.iList, WB.iTup, iPtr, sTry, h]
  have e1 := asBools_map (rs.map (inB most))
  have e2 : (rs.map (inB most)).all id = rs.all (inB most) := by rw [List.all_map]; rfl
  unfold m_is_row_of fnD b_is_row_of rofB
  generalize rs.map (inB most) = bs at h1 e1 e2
  by_cases h : (rs.length : Int) = size
  · simp [sSeq, sIf, sNil, sRet, sRetN, sSet, sExpr, sRaise, sBreak, sCont, sUnp, setAll, dVar, dC, dOp, dT, dB, dChain, dChain3, dAnd, dOr, dNot, dIf, dAndV, dOrV, dNotV, dCB, dCons, dNil, dCall, dMtd, gLen, gMax, gMin, gSum, gAllB, gAnyB, gSorted, gList, gTuple, gInt, gAbs, dAdd, dInt, dInt0, dMul, dNeg, dCmp, dEq, dNe, dIsN, dNotN, dIn, dIx, dSl, oNone, oSome, dLst, dTup, frzAll, frzV, newL, rdL, rdM, rdT, rdD, truD, dTru, mAppend, mInsert, mExtend, mPopAt, mIndex, mCount, dIsI, cMod, cDiv, cPow, cMul, iRange1, iRange2, WB.iList, WB.iTup, iPtr, sTry, h, h1, e1, e2]
  · simp [sSeq, sIf, sNil, sRet, sRetN, sSet, sExpr, sRaise, sBreak, sCont, sUnp, setAll, dVar, dC, dOp, dT, dB, dChain, dChain3, dAnd, dOr, dNot, dIf, dAndV, dOrV, dNotV, dCB, dCons, dNil, dCall, dMtd, gLen, gMax, gMin, gSum, gAllB, gAnyB, gSorted, gList, gTuple, gInt, gAbs, dAdd, dInt, dInt0, dMul, dNeg, dCmp, dEq, dNe, dIsN, dNotN, dIn, dIx, dSl, oNone, oSome, dLst, dTup, frzAll, frzV, newL, rdL, rdM, rdT, rdD, truD, dTru, mAppend, mInsert, mExtend, mPopAt, mIndex, mCount, dIsI, cMod, cDiv, cPow, cMul, iRange1, iRange2, WB.iList, WB.iTup, iPtr, sTry, h]
theorem ev_int (i j : Int) : PyData.eqv (.int i) (.int j) = decide (i = j) := by
  rw [PyData.eqv]
  by_cases h : i = j
  · subst h; simp
  · simp [h]
theorem lc_broken (size most : Int) (rs : List Int) (fs : List Fc) (st : List Cell) (hl : fs.length ≤ 1000) (ok : ∀ f ∈ fs, OkF size most f) (hs : size ≤ rs.length) : lc1_broken [.dat (.int size), .dat (.int most), .dat (LF fs), .dat (LI rs), .un] st = .ok (.dat (LN (brk rs fs))) st := by
  have hR : InRg (fs.length : Int) := inRg_nat (by omega)
  unfold lc1_broken
  rw [dLc_enc (fun k : Nat => PyData.int (k : Nat)) (List.range fs.length) (fun k => decide (wrI rs (gF fs k) ≠ (gF fs k).v)) (fun k => .int (k : Nat)) (by rw [← rng_enc]; simp [sSeq, sIf, sNil, sRet, sRetN, sSet, sExpr, sRaise, sBreak, sCont, sUnp, setAll, dVar, dC, dOp, dT, dB, dChain, dChain3, dAnd, dOr, dNot, dIf, dAndV, dOrV, dNotV, dCB, dCons, dNil, dCall, dMtd, gLen, gMax, gMin, gSum, gAllB, gAnyB, gSorted, gList, gTuple, gInt, gAbs, dAdd, dInt, dInt0, dMul, dNeg, dCmp, dEq, dNe, dIsN, dNotN, dIn, dIx, dSl, oNone, oSome, dLst, dTup, frzAll, frzV, newL, rdL, rdM, rdT, rdD, truD, dTru, mAppend, mInsert, mExtend, mPopAt, mIndex, mCount, dIsI, cMod, cDiv, cPow, cMul, iRange1, iRange2, WB.iList, WB.iTup, iPtr, sTry, hR]) (fun k hk => ?_) (by rw [List.length_range]; omega)]
  · rfl
  · have hk' : k < fs.length := List.mem_range.mp hk
    have e1 := at_fact hk'
    refine ⟨[.dat (.int size), .dat (.int most), .dat (LF fs), .dat (LI rs), .dat (.int (k : Nat))], rfl, fun st => ?_, fun _ st => by unfold lc1_broken_e; simp [sSeq, sIf, sNil, sRet, sRetN, sSet, sExpr, sRaise, sBreak, sCont, sUnp, setAll, dVar, dC, dOp, dT, dB, dChain, dChain3, dAnd, dOr, dNot, dIf, dAndV, dOrV, dNotV, dCB, dCons, dNil, dCall, dMtd, gLen, gMax, gMin, gSum, gAllB, gAnyB, gSorted, gList, gTuple, gInt, gAbs, dAdd, dInt, dInt0, dMul, dNeg, dCmp, dEq, dNe, dIsN, dNotN, dIn, dIx, dSl, oNone, oSome, dLst, dTup, frzAll, frzV, newL, rdL, rdM, rdT, rdD, truD, dTru, mAppend, mInsert, mExtend, mPopAt, mIndex, mCount, dIsI, cMod, cDiv, cPow, cMul, iRange1, iRange2, WB.iList, WB.iTup, iPtr, sTry]⟩
    have e2 := worth_of_eq rs (gF fs k) st (ok _ (gF_mem hk')) hs
    unfold lc1_broken_t
    unfold LF
    generalize fs.map fcD = ds at e1 ⊢
    unfold fcD at e1 e2
    simp [sSeq, sIf, sNil, sRet, sRetN, sSet, sExpr, sRaise, sBreak, sCont, sUnp, setAll, dVar, dC, dOp, dT, dB, dChain, dChain3, dAnd, dOr, dNot, dIf, dAndV, dOrV, dNotV, dCB, dCons, dNil, dCall, dMtd, gLen, gMax, gMin, gSum, gAllB, gAnyB, gSorted, gList, gTuple, gInt, gAbs, dAdd, dInt, dInt0, dMul, dNeg, dCmp, dEq, dNe, dIsN, dNotN, dIn, dIx, dSl, oNone, oSome, dLst, dTup, frzAll, frzV, newL, rdL, rdM, rdT, rdD, truD, dTru, mAppend, mInsert, mExtend, mPopAt, mIndex, mCount, dIsI, cMod, cDiv, cPow, cMul, iRange1, iRange2, WB.iList, WB.iTup, iPtr, sTry, e1, e2, at4_3]
    by_cases h : wrI rs (gF fs k) = (gF fs k).v <;> simp [h]
theorem broken_eq (size most : Int) (rs : List Int) (fs : List Fc) (st : List Cell) (hl : fs.length ≤ 1000) (hr : rs.length ≤ 1000) (h1 : szB size most = true) (h2 : tdB size most fs = true) : m_broken [.dat (.int size), .dat (.int most), .dat (LF fs), .dat (LI rs)] st =
    if rowB rs = true then .ok (.dat (LN (if rofB size most rs = true then brk rs fs else List.range fs.length))) st else .rs 0 st := by
  have e1 := look_told_eq size most fs st (by omega)
  rw [if_pos h1, if_pos h2] at e1
  have e2 := look_row_eq rs st (by omega)
  have e3 := is_row_of_eq size most rs st (by omega)
  have ok : ∀ f ∈ fs, OkF size most f := by
    unfold tdB at h2
    simp only [Bool.and_eq_true, List.all_eq_true] at h2
    exact fun f hf => okF_iff.mp (h2.2 f hf)
  have hR : InRg (fs.length : Int) := inRg_nat (by omega)
  have hR2 : fs.length ≤ 1000000 := by omega
  have e4 := rng_enc fs.length
  unfold m_broken fnD b_broken
  cases hb : rowB rs with
  | false => simp [sSeq, sIf, sNil, sRet, sRetN, sSet, sExpr, sRaise, sBreak, sCont, sUnp, setAll, dVar, dC, dOp, dT, dB, dChain, dChain3, dAnd, dOr, dNot, dIf, dAndV, dOrV, dNotV, dCB, dCons, dNil, dCall, dMtd, gLen, gMax, gMin, gSum, gAllB, gAnyB, gSorted, gList, gTuple, gInt, gAbs, dAdd, dInt, dInt0, dMul, dNeg, dCmp, dEq, dNe, dIsN, dNotN, dIn, dIx, dSl, oNone, oSome, dLst, dTup, frzAll, frzV, newL, rdL, rdM, rdT, rdD, truD, dTru, mAppend, mInsert, mExtend, mPopAt, mIndex, mCount, dIsI, cMod, cDiv, cPow, cMul, iRange1, iRange2, WB.iList, WB.iTup, iPtr, sTry, e1, e2, hb]
  | true =>
    cases hc : rofB size most rs with
    | true =>
      have hs : size ≤ rs.length := by
        unfold rofB at hc
        simp only [Bool.and_eq_true, decide_eq_true_eq] at hc
        omega
      have e5 := lc_broken size most rs fs st hl ok hs
      simp [sSeq, sIf, sNil, sRet, sRetN, sSet, sExpr, sRaise, sBreak, sCont, sUnp, setAll, dVar, dC, dOp, dT, dB, dChain, dChain3, dAnd, dOr, dNot, dIf, dAndV, dOrV, dNotV, dCB, dCons, dNil, dCall, dMtd, gLen, gMax, gMin, gSum, gAllB, gAnyB, gSorted, gList, gTuple, gInt, gAbs, dAdd, dInt, dInt0, dMul, dNeg, dCmp, dEq, dNe, dIsN, dNotN, dIn, dIx, dSl, oNone, oSome, dLst, dTup, frzAll, frzV, newL, rdL, rdM, rdT, rdD, truD, dTru, mAppend, mInsert, mExtend, mPopAt, mIndex, mCount, dIsI, cMod, cDiv, cPow, cMul, iRange1, iRange2, WB.iList, WB.iTup, iPtr, sTry, e1, e2, hb, e3, hc, e5]
    | false => simp [sSeq, sIf, sNil, sRet, sRetN, sSet, sExpr, sRaise, sBreak, sCont, sUnp, setAll, dVar, dC, dOp, dT, dB, dChain, dChain3, dAnd, dOr, dNot, dIf, dAndV, dOrV, dNotV, dCB, dCons, dNil, dCall, dMtd, gLen, gMax, gMin, gSum, gAllB, gAnyB, gSorted, gList, gTuple, gInt, gAbs, dAdd, dInt, dInt0, dMul, dNeg, dCmp, dEq, dNe, dIsN, dNotN, dIn, dIx, dSl, oNone, oSome, dLst, dTup, frzAll, frzV, newL, rdL, rdM, rdT, rdD, truD, dTru, mAppend, mInsert, mExtend, mPopAt, mIndex, mCount, dIsI, cMod, cDiv, cPow, cMul, iRange1, iRange2, WB.iList, WB.iTup, iPtr, sTry, e1, e2, hb, e3, hc, dListRange, hR, hR2, e4]
end PG

set_option maxRecDepth 100000
set_option maxHeartbeats 4000000
namespace PG
open PySem PySem.Spec PyProof.Rows WB
open L2 (atI ixN atI_nat)
section
variable {st : List Cell} {m m' : Cell}
theorem ap_last : (st ++ [m])[st.length]? = some m := by rw [List.getElem?_append_right (Nat.le_refl _)]; simp
theorem ap_put : (st ++ [m]).set st.length m' = st ++ [m'] := by rw [List.set_append_right _ _ (Nat.le_refl _)]; simp
theorem ap_take : (st ++ [m]).take st.length = st := List.take_left
end
def cvB (p : Int) (f : Fc) : Bool := decide (f.a ≤ p) && decide (p ≤ f.b)
def hereF (fs : List Fc) (p : Int) : List Fc := fs.filter (cvB p)
def isL (f : Fc) : Bool := decide (f.w = "least")
def isG (f : Fc) : Bool := decide (f.w = "greatest")
def lowI (fs : List Fc) (p : Int) : Int := mxI (((hereF fs p).filter isL).map Fc.v ++ [0])
def highI (most : Int) (fs : List Fc) (p : Int) : Int := mnI (((hereF fs p).filter isG).map Fc.v ++ [most])
def bdD (most : Int) (fs : List Fc) (p : Int) : PyData := if lowI fs p ≤ highI most fs p then .tuple [.int (lowI fs p), .int (highI most fs p)] else .none
theorem lc_here (x0 x1 x3 x5 x6 x7 : DV) (fs : List Fc) (p : Int) (st : List Cell) (hl : fs.length ≤ 1000) : lc1_bounds [x0, x1, .dat (LF fs), x3, .dat (.int p), x5, x6, x7, .un] st = .ok (.dat (LF (hereF fs p))) st := by
  unfold lc1_bounds
  rw [dLc_enc fcD fs (cvB p) fcD (by simp [sSeq, sIf, sNil, sRet, sRetN, sSet, sExpr, sRaise, sBreak, sCont, sUnp, setAll, dVar, dC, dOp, dT, dB, dChain, dChain3, dAnd, dOr, dNot, dIf, dAndV, dOrV, dNotV, dCB, dCons, dNil, dCall, dMtd, gLen, gMax, gMin, gSum, gAllB, gAnyB, gSorted, gList, gTuple, gInt, gAbs, dAdd, dInt, dInt0, dMul, dNeg, dCmp, dEq, dNe, dIsN, dNotN, dIn, dIx, dSl, oNone, oSome, dLst, dTup, frzAll, frzV, newL, rdL, rdM, rdT, rdD, truD, dTru, mAppend, mInsert, mExtend, mPopAt, mIndex, mCount, dIsI, cMod, cDiv, cPow, cMul, iRange1, iRange2, WB.iList, WB.iTup, iPtr, sTry]) (fun f _ => ?_) (by omega)]
  · rfl
  · refine ⟨[x0, x1, .dat (LF fs), x3, .dat (.int p), x5, x6, x7, .dat (fcD f)], rfl, fun st => ?_, fun _ st => by unfold lc1_bounds_e; simp [sSeq, sIf, sNil, sRet, sRetN, sSet, sExpr, sRaise, sBreak, sCont, sUnp, setAll, dVar, dC, dOp, dT, dB, dChain, dChain3, dAnd, dOr, dNot, dIf, dAndV, dOrV, dNotV, dCB, dCons, dNil, dCall, dMtd, gLen, gMax, gMin, gSum, gAllB, gAnyB, gSorted, gList, gTuple, gInt, gAbs, dAdd, dInt, dInt0, dMul, dNeg, dCmp, dEq, dNe, dIsN, dNotN, dIn, dIx, dSl, oNone, oSome, dLst, dTup, frzAll, frzV, newL, rdL, rdM, rdT, rdD, truD, dTru, mAppend, mInsert, mExtend, mPopAt, mIndex, mCount, dIsI, cMod, cDiv, cPow, cMul, iRange1, iRange2, WB.iList, WB.iTup, iPtr, sTry]⟩
    obtain ⟨w, a, b, v⟩ := f
    unfold lc1_bounds_t cvB
    generalize fs.map fcD = ds
    unfold fcD
    by_cases h : a ≤ p
    · simp [sSeq, sIf, sNil, sRet, sRetN, sSet, sExpr, sRaise, sBreak, sCont, sUnp, setAll, dVar, dC, dOp, dT, dB, dChain, dChain3, dAnd, dOr, dNot, dIf, dAndV, dOrV, dNotV, dCB, dCons, dNil, dCall, dMtd, gLen, gMax, gMin, gSum, gAllB, gAnyB, gSorted, gList, gTuple, gInt, gAbs, dAdd, dInt, dInt0, dMul, dNeg, dCmp, dEq, dNe, dIsN, dNotN, dIn, dIx, dSl, oNone, oSome, dLst, dTup, frzAll, frzV, newL, rdL, rdM, rdT, rdD, truD, dTru, mAppend, mInsert, mExtend, mPopAt, mIndex, mCount, dIsI, cMod, cDiv, cPow, cMul, iRange1, iRange2, WB.iList, WB.iTup, iPtr, sTry, at4_1, at4_2, h]
    · simp [sSeq, sIf, sNil, sRet, sRetN, sSet, sExpr, sRaise, sBreak, sCont, sUnp, setAll, dVar, dC, dOp, dT, dB, dChain, dChain3, dAnd, dOr, dNot, dIf, dAndV, dOrV, dNotV, dCB, dCons, dNil, dCall, dMtd, gLen, gMax, gMin, gSum, gAllB, gAnyB, gSorted, gList, gTuple, gInt, gAbs, dAdd, dInt, dInt0, dMul, dNeg, dCmp, dEq, dNe, dIsN, dNotN, dIn, dIx, dSl, oNone, oSome, dLst, dTup, frzAll, frzV, newL, rdL, rdM, rdT, rdD, truD, dTru, mAppend, mInsert, mExtend, mPopAt, mIndex, mCount, dIsI, cMod, cDiv, cPow, cMul, iRange1, iRange2, WB.iList, WB.iTup, iPtr, sTry, at4_1, at4_2, h]
theorem lc_least {size most : Int} (x0 x1 x2 x3 x4 x6 x7 : DV) (fs : List Fc) (st : List Cell) (hl : fs.length ≤ 1000) (ok : ∀ f ∈ fs, OkF size most f) : lc2_bounds [x0, x1, x2, x3, x4, .dat (LF fs), x6, x7, .un] st = .ok (.dat (LI ((fs.filter isL).map Fc.v))) st := by
  unfold lc2_bounds
  rw [dLc_enc fcD fs isL (fun f => .int f.v) (by simp [sSeq, sIf, sNil, sRet, sRetN, sSet, sExpr, sRaise, sBreak, sCont, sUnp, setAll, dVar, dC, dOp, dT, dB, dChain, dChain3, dAnd, dOr, dNot, dIf, dAndV, dOrV, dNotV, dCB, dCons, dNil, dCall, dMtd, gLen, gMax, gMin, gSum, gAllB, gAnyB, gSorted, gList, gTuple, gInt, gAbs, dAdd, dInt, dInt0, dMul, dNeg, dCmp, dEq, dNe, dIsN, dNotN, dIn, dIx, dSl, oNone, oSome, dLst, dTup, frzAll, frzV, newL, rdL, rdM, rdT, rdD, truD, dTru, mAppend, mInsert, mExtend, mPopAt, mIndex, mCount, dIsI, cMod, cDiv, cPow, cMul, iRange1, iRange2, WB.iList, WB.iTup, iPtr, sTry]) (fun f hf => ?_) (by omega)]
  · unfold LI; rw [List.map_map]; rfl
  · have o := ok f hf
    refine ⟨[x0, x1, x2, x3, x4, .dat (LF fs), x6, x7, .dat (fcD f)], rfl, fun st => ?_, fun _ st => ?_⟩
    · obtain ⟨w, a, b, v⟩ := f
      have ow := o.w
      unfold lc2_bounds_t isL
      generalize fs.map fcD = ds
      unfold fcD
      dsimp only at ow ⊢
      rcases ow with rfl | rfl
      · simp [sSeq, sIf, sNil, sRet, sRetN, sSet, sExpr, sRaise, sBreak, sCont, sUnp, setAll, dVar, dC, dOp, dT, dB, dChain, dChain3, dAnd, dOr, dNot, dIf, dAndV, dOrV, dNotV, dCB, dCons, dNil, dCall, dMtd, gLen, gMax, gMin, gSum, gAllB, gAnyB, gSorted, gList, gTuple, gInt, gAbs, dAdd, dInt, dInt0, dMul, dNeg, dCmp, dEq, dNe, dIsN, dNotN, dIn, dIx, dSl, oNone, oSome, dLst, dTup, frzAll, frzV, newL, rdL, rdM, rdT, rdD, truD, dTru, mAppend, mInsert, mExtend, mPopAt, mIndex, mCount, dIsI, cMod, cDiv, cPow, cMul, iRange1, iRange2, WB.iList, WB.iTup, iPtr, sTry, at4_0, sg, sl, evgl, gl_ne]
      · simp [sSeq, sIf, sNil, sRet, sRetN, sSet, sExpr, sRaise, sBreak, sCont, sUnp, setAll, dVar, dC, dOp, dT, dB, dChain, dChain3, dAnd, dOr, dNot, dIf, dAndV, dOrV, dNotV, dCB, dCons, dNil, dCall, dMtd, gLen, gMax, gMin, gSum, gAllB, gAnyB, gSorted, gList, gTuple, gInt, gAbs, dAdd, dInt, dInt0, dMul, dNeg, dCmp, dEq, dNe, dIsN, dNotN, dIn, dIx, dSl, oNone, oSome, dLst, dTup, frzAll, frzV, newL, rdL, rdM, rdT, rdD, truD, dTru, mAppend, mInsert, mExtend, mPopAt, mIndex, mCount, dIsI, cMod, cDiv, cPow, cMul, iRange1, iRange2, WB.iList, WB.iTup, iPtr, sTry, at4_0, sg, sl, evll]
    · obtain ⟨w, a, b, v⟩ := f
      unfold lc2_bounds_e
      generalize fs.map fcD = ds
      unfold fcD
      simp [sSeq, sIf, sNil, sRet, sRetN, sSet, sExpr, sRaise, sBreak, sCont, sUnp, setAll, dVar, dC, dOp, dT, dB, dChain, dChain3, dAnd, dOr, dNot, dIf, dAndV, dOrV, dNotV, dCB, dCons, dNil, dCall, dMtd, gLen, gMax, gMin, gSum, gAllB, gAnyB, gSorted, gList, gTuple, gInt, gAbs, dAdd, dInt, dInt0, dMul, dNeg, dCmp, dEq, dNe, dIsN, dNotN, dIn, dIx, dSl, oNone, oSome, dLst, dTup, frzAll, frzV, newL, rdL, rdM, rdT, rdD, truD, dTru, mAppend, mInsert, mExtend, mPopAt, mIndex, mCount, dIsI, cMod, cDiv, cPow, cMul, iRange1, iRange2, WB.iList, WB.iTup, iPtr, sTry, at4_3]
theorem lc_great {size most : Int} (x0 x1 x2 x3 x4 x6 x7 : DV) (fs : List Fc) (st : List Cell) (hl : fs.length ≤ 1000) (ok : ∀ f ∈ fs, OkF size most f) : lc3_bounds [x0, x1, x2, x3, x4, .dat (LF fs), x6, x7, .un] st = .ok (.dat (LI ((fs.filter isG).map Fc.v))) st := by
  unfold lc3_bounds
  rw [dLc_enc fcD fs isG (fun f => .int f.v) (by simp [sSeq, sIf, sNil, sRet, sRetN, sSet, sExpr, sRaise, sBreak, sCont, sUnp, setAll, dVar, dC, dOp, dT, dB, dChain, dChain3, dAnd, dOr, dNot, dIf, dAndV, dOrV, dNotV, dCB, dCons, dNil, dCall, dMtd, gLen, gMax, gMin, gSum, gAllB, gAnyB, gSorted, gList, gTuple, gInt, gAbs, dAdd, dInt, dInt0, dMul, dNeg, dCmp, dEq, dNe, dIsN, dNotN, dIn, dIx, dSl, oNone, oSome, dLst, dTup, frzAll, frzV, newL, rdL, rdM, rdT, rdD, truD, dTru, mAppend, mInsert, mExtend, mPopAt, mIndex, mCount, dIsI, cMod, cDiv, cPow, cMul, iRange1, iRange2, WB.iList, WB.iTup, iPtr, sTry]) (fun f hf => ?_) (by omega)]
  · unfold LI; rw [List.map_map]; rfl
  · have o := ok f hf
    refine ⟨[x0, x1, x2, x3, x4, .dat (LF fs), x6, x7, .dat (fcD f)], rfl, fun st => ?_, fun _ st => ?_⟩
    · obtain ⟨w, a, b, v⟩ := f
      have ow := o.w
      unfold lc3_bounds_t isG
      generalize fs.map fcD = ds
      unfold fcD
      dsimp only at ow ⊢
      rcases ow with rfl | rfl
      · simp [sSeq, sIf, sNil, sRet, sRetN, sSet, sExpr, sRaise, sBreak, sCont, sUnp, setAll, dVar, dC, dOp, dT, dB, dChain, dChain3, dAnd, dOr, dNot, dIf, dAndV, dOrV, dNotV, dCB, dCons, dNil, dCall, dMtd, gLen, gMax, gMin, gSum, gAllB, gAnyB, gSorted, gList, gTuple, gInt, gAbs, dAdd, dInt, dInt0, dMul, dNeg, dCmp, dEq, dNe, dIsN, dNotN, dIn, dIx, dSl, oNone, oSome, dLst, dTup, frzAll, frzV, newL, rdL, rdM, rdT, rdD, truD, dTru, mAppend, mInsert, mExtend, mPopAt, mIndex, mCount, dIsI, cMod, cDiv, cPow, cMul, iRange1, iRange2, WB.iList, WB.iTup, iPtr, sTry, at4_0, sg, sl, evgg]
      · simp [sSeq, sIf, sNil, sRet, sRetN, sSet, sExpr, sRaise, sBreak, sCont, sUnp, setAll, dVar, dC, dOp, dT, dB, dChain, dChain3, dAnd, dOr, dNot, dIf, dAndV, dOrV, dNotV, dCB, dCons, dNil, dCall, dMtd, gLen, gMax, gMin, gSum, gAllB, gAnyB, gSorted, gList, gTuple, gInt, gAbs, dAdd, dInt, dInt0, dMul, dNeg, dCmp, dEq, dNe, dIsN, dNotN, dIn, dIx, dSl, oNone, oSome, dLst, dTup, frzAll, frzV, newL, rdL, rdM, rdT, rdD, truD, dTru, mAppend, mInsert, mExtend, mPopAt, mIndex, mCount, dIsI, cMod, cDiv, cPow, cMul, iRange1, iRange2, WB.iList, WB.iTup, iPtr, sTry, at4_0, sg, sl, evlg, lg_ne]
    · obtain ⟨w, a, b, v⟩ := f
      unfold lc3_bounds_e
      generalize fs.map fcD = ds
      unfold fcD
      simp [sSeq, sIf, sNil, sRet, sRetN, sSet, sExpr, sRaise, sBreak, sCont, sUnp, setAll, dVar, dC, dOp, dT, dB, dChain, dChain3, dAnd, dOr, dNot, dIf, dAndV, dOrV, dNotV, dCB, dCons, dNil, dCall, dMtd, gLen, gMax, gMin, gSum, gAllB, gAnyB, gSorted, gList, gTuple, gInt, gAbs, dAdd, dInt, dInt0, dMul, dNeg, dCmp, dEq, dNe, dIsN, dNotN, dIn, dIx, dSl, oNone, oSome, dLst, dTup, frzAll, frzV, newL, rdL, rdM, rdT, rdD, truD, dTru, mAppend, mInsert, mExtend, mPopAt, mIndex, mCount, dIsI, cMod, cDiv, cPow, cMul, iRange1, iRange2, WB.iList, WB.iTup, iPtr, sTry, at4_3]
theorem ints_snoc (l : List Int) (x : Int) : l.map PyData.int ++ [PyData.int x] = (l ++ [x]).map PyData.int := by simp
theorem max_of {l : List Int} {st : List Cell} (h : l ≠ []) : gMax [.dat (.list (l.map PyData.int))] st = .ok (.dat (.int (mxI l))) st := max_cut h
theorem min_of {l : List Int} {st : List Cell} (h : l ≠ []) : gMin [.dat (.list (l.map PyData.int))] st = .ok (.dat (.int (mnI l))) st := min_cut h
theorem bounds_turn {size most : Int} (fs : List Fc) (p : Int) (x5 x6 x7 : DV) (st : List Cell) (acc : List PyData) (hl : fs.length ≤ 1000) (ha : acc.length < 1000) (ok : ∀ f ∈ fs, OkF size most f) :
    fo5_bounds_b [.dat (.int size), .dat (.int most), .dat (LF fs), .ptr st.length, .dat (.int p), x5, x6, x7, .un] (st ++ [.mu acc]) =
      .nx [.dat (.int size), .dat (.int most), .dat (LF fs), .ptr st.length, .dat (.int p), .dat (LF (hereF fs p)), .dat (.int (lowI fs p)), .dat (.int (highI most fs p)), .un] (st ++ [.mu (acc ++ [bdD most fs p])]) := by
  have hlh : (hereF fs p).length ≤ 1000 := Nat.le_trans (List.length_filter_le _ _) hl
  have okh : ∀ f ∈ hereF fs p, OkF size most f := fun f hf => ok f (List.mem_filter.mp hf).1
  have e1 := lc_here (.dat (.int size)) (.dat (.int most)) (.ptr st.length) x5 x6 x7 fs p (st ++ [.mu acc]) hl
  have e2 := lc_least (.dat (.int size)) (.dat (.int most)) (.dat (LF fs)) (.ptr st.length) (.dat (.int p)) x6 x7 (hereF fs p) (st ++ [.mu acc]) hlh okh
  have e3 := lc_great (.dat (.int size)) (.dat (.int most)) (.dat (LF fs)) (.ptr st.length) (.dat (.int p)) (.dat (.int (lowI fs p))) x7 (hereF fs p) (st ++ [.mu acc]) hlh okh
  have l1 : (((hereF fs p).filter isL).map Fc.v).length + 1 ≤ 1000000 := by
    rw [List.length_map]; have := List.length_filter_le isL (hereF fs p); omega
  have l2 : (((hereF fs p).filter isG).map Fc.v).length + 1 ≤ 1000000 := by
    rw [List.length_map]; have := List.length_filter_le isG (hereF fs p); omega
  have m0 : sSet 5 lc1_bounds [.dat (.int size), .dat (.int most), .dat (LF fs), .ptr st.length, .dat (.int p), x5, x6, x7, .un] (st ++ [.mu acc]) = .nx [.dat (.int size), .dat (.int most), .dat (LF fs), .ptr st.length, .dat (.int p), .dat (LF (hereF fs p)), x6, x7, .un] (st ++ [.mu acc]) := by
    unfold sSet
    rw [e1, sr_ok]
    rfl
  have m1 : sSet 6 (dCB gMax (dCons (dOp (dAdd false) lc2_bounds (dLst false (dCons (dC (.int 0)) dNil))) dNil)) [.dat (.int size), .dat (.int most), .dat (LF fs), .ptr st.length, .dat (.int p), .dat (LF (hereF fs p)), x6, x7, .un] (st ++ [.mu acc]) = .nx [.dat (.int size), .dat (.int most), .dat (LF fs), .ptr st.length, .dat (.int p), .dat (LF (hereF fs p)), .dat (.int (lowI fs p)), x7, .un] (st ++ [.mu acc]) := by
    have := max_of (l := ((hereF fs p).filter isL).map Fc.v ++ [0]) (st := st ++ [.mu acc]) (by simp)
    rw [← ints_snoc] at this
    unfold lowI
    generalize ((hereF fs p).filter isL).map Fc.v = vs at e2 l1 this ⊢
    simp [sSet, dCB, dCons, dOp, dNil, e2, dLst, dC, frzAll, frzV, newL, dAdd, rdM, l1, this]
  have m2 : sSet 7 (dCB gMin (dCons (dOp (dAdd false) lc3_bounds (dLst false (dCons (dVar 1) dNil))) dNil)) [.dat (.int size), .dat (.int most), .dat (LF fs), .ptr st.length, .dat (.int p), .dat (LF (hereF fs p)), .dat (.int (lowI fs p)), x7, .un] (st ++ [.mu acc]) = .nx [.dat (.int size), .dat (.int most), .dat (LF fs), .ptr st.length, .dat (.int p), .dat (LF (hereF fs p)), .dat (.int (lowI fs p)), .dat (.int (highI most fs p)), .un] (st ++ [.mu acc]) := by
    have := min_of (l := ((hereF fs p).filter isG).map Fc.v ++ [most]) (st := st ++ [.mu acc]) (by simp)
    rw [← ints_snoc] at this
    unfold highI
    generalize ((hereF fs p).filter isG).map Fc.v = vs at e3 l2 this ⊢
    simp [sSet, dCB, dCons, dOp, dNil, dVar, e3, dLst, dC, frzAll, frzV, newL, dAdd, rdM, l2, this]
  have hlst : (st ++ [Cell.mu acc])[st.length]? = some (.mu acc) := ap_last
  have hput : ∀ m', (st ++ [Cell.mu acc]).set st.length m' = st ++ [m'] := fun _ => ap_put
  have ha' : acc.length < 1000000 := by omega
  unfold fo5_bounds_b
  rw [seq_nx m0, seq_nx m1, seq_nx m2]
  unfold ie4_bounds bdD
  generalize lowI fs p = lo
  generalize highI most fs p = hi
  by_cases h : lo ≤ hi
  · simp [sSeq, sIf, sNil, sRet, sRetN, sSet, sExpr, sRaise, sBreak, sCont, sUnp, setAll, dVar, dC, dOp, dT, dB, dChain, dChain3, dAnd, dOr, dNot, dIf, dAndV, dOrV, dNotV, dCB, dCons, dNil, dCall, dMtd, gLen, gMax, gMin, gSum, gAllB, gAnyB, gSorted, gList, gTuple, gInt, gAbs, dAdd, dInt, dInt0, dMul, dNeg, dCmp, dEq, dNe, dIsN, dNotN, dIn, dIx, dSl, oNone, oSome, dLst, dTup, frzAll, frzV, newL, rdL, rdM, rdT, rdD, truD, dTru, mAppend, mInsert, mExtend, mPopAt, mIndex, mCount, dIsI, cMod, cDiv, cPow, cMul, iRange1, iRange2, WB.iList, WB.iTup, iPtr, sTry, h, hlst, hput, ha']
  · simp [sSeq, sIf, sNil, sRet, sRetN, sSet, sExpr, sRaise, sBreak, sCont, sUnp, setAll, dVar, dC, dOp, dT, dB, dChain, dChain3, dAnd, dOr, dNot, dIf, dAndV, dOrV, dNotV, dCB, dCons, dNil, dCall, dMtd, gLen, gMax, gMin, gSum, gAllB, gAnyB, gSorted, gList, gTuple, gInt, gAbs, dAdd, dInt, dInt0, dMul, dNeg, dCmp, dEq, dNe, dIsN, dNotN, dIn, dIx, dSl, oNone, oSome, dLst, dTup, frzAll, frzV, newL, rdL, rdM, rdT, rdD, truD, dTru, mAppend, mInsert, mExtend, mPopAt, mIndex, mCount, dIsI, cMod, cDiv, cPow, cMul, iRange1, iRange2, WB.iList, WB.iTup, iPtr, sTry, h, hlst, hput, ha']
theorem bounds_eq (size most : Int) (fs : List Fc) (st : List Cell) (h1 : szB size most = true) (h2 : tdB size most fs = true) : m_bounds [.dat (.int size), .dat (.int most), .dat (LF fs)] st = .ok (.dat (.list ((List.range size.toNat).map fun p : Nat => bdD most fs (p : Nat)))) st := by
  have hl : fs.length ≤ 6 := by
    unfold tdB at h2
    simp only [Bool.and_eq_true, decide_eq_true_eq] at h2
    exact h2.1
  have e1 := look_told_eq size most fs st (by omega)
  rw [if_pos h1, if_pos h2] at e1
  have ok : ∀ f ∈ fs, OkF size most f := by
    unfold tdB at h2
    simp only [Bool.and_eq_true, List.all_eq_true] at h2
    exact fun f hf => okF_iff.mp (h2.2 f hf)
  have hsz : 1 ≤ size ∧ size ≤ 8 := by
    unfold szB at h1
    simp only [Bool.and_eq_true, decide_eq_true_eq] at h1
    exact h1.1
  have hR : InRg size := inRg_small (by omega) (by omega)
  obtain ⟨δ', st', e2, x4, x5, x6, x7, e3, e4⟩ := forL_inv (g := tgN 4) (f := fo5_bounds_b) (fun i δ s => ∃ x4 x5 x6 x7, δ = [.dat (.int size), .dat (.int most), .dat (LF fs), .ptr st.length, x4, x5, x6, x7, .un] ∧ s = st ++ [.mu ((List.range i).map fun p : Nat => bdD most fs (p : Nat))]) (rngD 0 size.toNat) 0
    [.dat (.int size), .dat (.int most), .dat (LF fs), .ptr st.length, .un, .un, .un, .un, .un] (st ++ [.mu []]) (fun i d e δ s hI => by
      obtain ⟨x4, x5, x6, x7, rfl, rfl⟩ := hI
      obtain ⟨hi, rfl⟩ := rngD_get e
      refine ⟨_, _, _, rfl, bounds_turn fs (0 + (i : Nat)) x5 x6 x7 st _ (by omega) (by rw [List.length_map, List.length_range]; omega) ok, _, _, _, _, rfl, ?_⟩
      rw [Nat.zero_add, List.range_succ, List.map_append, Int.zero_add]
      rfl) ⟨.un, .un, .un, .un, rfl, rfl⟩
  rw [rngD_len, Nat.zero_add] at e4
  have hfo : fo5_bounds [.dat (.int size), .dat (.int most), .dat (LF fs), .ptr st.length, .un, .un, .un, .un, .un] (st ++ [.mu []]) = .nx δ' st' := by
    unfold fo5_bounds sFor
    have hi : iRange1 (dCons (dVar 0) dNil) [.dat (.int size), .dat (.int most), .dat (LF fs), .ptr st.length, .un, .un, .un, .un, .un] (st ++ [.mu []]) = .ok (rngD 0 size.toNat) (st ++ [.mu []]) := by
      simp [sSeq, sIf, sNil, sRet, sRetN, sSet, sExpr, sRaise, sBreak, sCont, sUnp, setAll, dVar, dC, dOp, dT, dB, dChain, dChain3, dAnd, dOr, dNot, dIf, dAndV, dOrV, dNotV, dCB, dCons, dNil, dCall, dMtd, gLen, gMax, gMin, gSum, gAllB, gAnyB, gSorted, gList, gTuple, gInt, gAbs, dAdd, dInt, dInt0, dMul, dNeg, dCmp, dEq, dNe, dIsN, dNotN, dIn, dIx, dSl, oNone, oSome, dLst, dTup, frzAll, frzV, newL, rdL, rdM, rdT, rdD, truD, dTru, mAppend, mInsert, mExtend, mPopAt, mIndex, mCount, dIsI, cMod, cDiv, cPow, cMul, iRange1, iRange2, WB.iList, WB.iTup, iPtr, sTry, hR]
    rw [hi, sr_ok]
    exact e2
  rw [e3, e4] at hfo
  have hlst : (st ++ [Cell.mu ((List.range size.toNat).map fun p : Nat => bdD most fs (p : Nat))])[st.length]? = some (.mu ((List.range size.toNat).map fun p : Nat => bdD most fs (p : Nat))) := ap_last
  have htk : (st ++ [Cell.mu ((List.range size.toNat).map fun p : Nat => bdD most fs (p : Nat))]).take st.length = st := ap_take
  unfold m_bounds fnD b_bounds
  generalize (List.range size.toNat).map (fun p : Nat => bdD most fs (p : Nat)) = ds at *
  simp [sSeq, sIf, sNil, sRet, sRetN, sSet, sExpr, sRaise, sBreak, sCont, sUnp, setAll, dVar, dC, dOp, dT, dB, dChain, dChain3, dAnd, dOr, dNot, dIf, dAndV, dOrV, dNotV, dCB, dCons, dNil, dCall, dMtd, gLen, gMax, gMin, gSum, gAllB, gAnyB, gSorted, gList, gTuple, gInt, gAbs, dAdd, dInt, dInt0, dMul, dNeg, dCmp, dEq, dNe, dIsN, dNotN, dIn, dIx, dSl, oNone, oSome, dLst, dTup, frzAll, frzV, newL, rdL, rdM, rdT, rdD, truD, dTru, mAppend, mInsert, mExtend, mPopAt, mIndex, mCount, dIsI, cMod, cDiv, cPow, cMul, iRange1, iRange2, WB.iList, WB.iTup, iPtr, sTry, e1, hfo, exitV, hlst, htk]
end PG

set_option maxRecDepth 100000
set_option maxHeartbeats 4000000
namespace PG
open PySem PySem.Spec PyProof.Rows WB
open L2 (atI ixN atI_nat)
/-! ### things that can be compared -/
theorem sh_natsN (l : List Nat) : SeqAt.shaped (.list (l.map fun k => PyData.int (k : Nat))) = true := by
  have := sh_ints (l.map fun (k : Nat) => (k : Int))
  rw [List.map_map] at this
  exact this
theorem eq_nil (l : List PyData) : PyData.eqv (.list l) (.list []) = l.isEmpty := by
  cases l with
  | nil => rw [PyData.eqv, PyData.eqvAll]; rfl
  | cons x r => rw [PyData.eqv, PyData.eqvAll]; rfl
theorem sh_nilN : SeqAt.shaped (.list []) = true := rfl
/-- at most k deep, and to be laid -/
def Lay (k : Nat) (d : PyData) : Prop := PyData.canLay0 d = true ∧ PyData.depth d ≤ k
theorem lay_all {k : Nat} : ∀ {ds : List PyData}, (∀ d ∈ ds, Lay k d) → PyData.canLayAll0 ds = true ∧ PyData.depthAll ds ≤ k
  | [], _ => by simp [PyData.canLayAll0, PyData.depthAll]
  | d :: r, h => by
    obtain ⟨h1, h2⟩ := h d List.mem_cons_self
    obtain ⟨h3, h4⟩ := lay_all (fun x hx => h x (List.mem_cons_of_mem _ hx))
    simp [PyData.canLayAll0, PyData.depthAll, h1, h3]
    omega
theorem lay_list {k : Nat} {ds : List PyData} (h : ∀ d ∈ ds, Lay k d) : Lay (k + 1) (.list ds) := by
  obtain ⟨h1, h2⟩ := lay_all h
  unfold Lay
  simp [PyData.canLay0, PyData.depth, h1]
  omega
theorem lay_tuple {k : Nat} {ds : List PyData} (h : ∀ d ∈ ds, Lay k d) : Lay (k + 1) (.tuple ds) := by
  obtain ⟨h1, h2⟩ := lay_all h
  unfold Lay
  simp [PyData.canLay0, PyData.depth, h1]
  omega
theorem lay_int {k : Nat} (i : Int) : Lay k (.int i) := by unfold Lay; simp [PyData.canLay0, PyData.depth]
theorem lay_none {k : Nat} : Lay k .none := by unfold Lay; simp [PyData.canLay0, PyData.depth]
theorem lay_bool {k : Nat} (b : Bool) : Lay k (.bool b) := by unfold Lay; simp [PyData.canLay0, PyData.depth]
theorem lay_sh {k : Nat} {d : PyData} (h : Lay k d) (hk : k ≤ 64) : SeqAt.shaped d = true := by
  unfold SeqAt.shaped
  simp [h.1]
  exact Nat.le_trans h.2 hk
theorem lay_of {k : Nat} {d : PyData} (h : SeqAt.shaped d = true) (hk : PyData.depth d ≤ k) : Lay k d := by
  unfold SeqAt.shaped at h
  simp at h
  exact ⟨h.1, hk⟩
theorem lay_fact {size most : Int} {f : Fc} (ok : OkF size most f) : Lay 1 (fcD f) := by
  obtain ⟨w, a, b, v⟩ := f
  refine lay_tuple fun d hd => ?_
  simp only [List.mem_cons, List.mem_nil_iff, or_false] at hd
  rcases hd with rfl | rfl | rfl | rfl
  · rcases ok.w with e | e
    · dsimp only at e; subst e; exact lay_of sg (by simp [PyData.depth])
    · dsimp only at e; subst e; exact lay_of sl (by simp [PyData.depth])
  · exact lay_int _
  · exact lay_int _
  · exact lay_int _
theorem lay_facts {size most : Int} {fs : List Fc} (ok : ∀ f ∈ fs, OkF size most f) : Lay 2 (LF fs) := by
  refine lay_list fun d hd => ?_
  obtain ⟨f, hf, rfl⟩ := List.mem_map.mp hd
  exact lay_fact (ok f hf)
theorem lay_ints {k : Nat} (l : List Int) : Lay (k + 1) (LI l) := by
  refine lay_list fun d hd => ?_
  obtain ⟨f, hf, rfl⟩ := List.mem_map.mp hd
  exact lay_int _
theorem lay_bd (most : Int) (fs : List Fc) (p : Int) : Lay 1 (bdD most fs p) := by
  unfold bdD
  split
  · refine lay_tuple fun d hd => ?_
    simp only [List.mem_cons, List.mem_nil_iff, or_false] at hd
    rcases hd with rfl | rfl
    · exact lay_int _
    · exact lay_int _
  · exact lay_none
/-! ### bounds, in plain -/
theorem mxI_le_iff {l : List Int} (h : l ≠ []) {x : Int} : mxI l ≤ x ↔ ∀ y ∈ l, y ≤ x := ⟨fun q y hy => Int.le_trans (mxI_le hy) q, fun q => q _ (mxI_mem h)⟩
theorem le_mnI_iff {l : List Int} (h : l ≠ []) {x : Int} : x ≤ mnI l ↔ ∀ y ∈ l, x ≤ y := ⟨fun q y hy => Int.le_trans q (mnI_le hy), fun q => q _ (mnI_mem h)⟩
def cnd (x : Int) (f : Fc) : Bool := if f.w = "greatest" then decide (x ≤ f.v) else decide (f.v ≤ x)
theorem lowI_le {size most : Int} {fs : List Fc} (ok : ∀ f ∈ fs, OkF size most f) {p x : Int} (hx : 0 ≤ x) (hm : x ≤ most) : (lowI fs p ≤ x ∧ x ≤ highI most fs p) ↔ ∀ f ∈ hereF fs p, cnd x f = true := by
  unfold lowI highI
  rw [mxI_le_iff (by simp), le_mnI_iff (by simp)]
  constructor
  · rintro ⟨h1, h2⟩ f hf
    have of := ok f (List.mem_filter.mp hf).1
    unfold cnd
    rcases of.w with e | e
    · rw [if_pos e]
      exact decide_eq_true (h2 _ (List.mem_append_left _ (List.mem_map.mpr ⟨f, List.mem_filter.mpr ⟨hf, by unfold isG; exact decide_eq_true e⟩, rfl⟩)))
    · rw [if_neg (by rw [e]; exact lg_ne)]
      exact decide_eq_true (h1 _ (List.mem_append_left _ (List.mem_map.mpr ⟨f, List.mem_filter.mpr ⟨hf, by unfold isL; exact decide_eq_true e⟩, rfl⟩)))
  · intro h
    constructor
    · intro y hy
      rcases List.mem_append.mp hy with hy | hy
      · obtain ⟨f, hf, rfl⟩ := List.mem_map.mp hy
        obtain ⟨hf1, hf2⟩ := List.mem_filter.mp hf
        have := h f hf1
        unfold isL at hf2
        unfold cnd at this
        rw [if_neg (by rw [of_decide_eq_true hf2]; exact lg_ne)] at this
        exact of_decide_eq_true this
      · rw [List.mem_singleton] at hy; omega
    · intro y hy
      rcases List.mem_append.mp hy with hy | hy
      · obtain ⟨f, hf, rfl⟩ := List.mem_map.mp hy
        obtain ⟨hf1, hf2⟩ := List.mem_filter.mp hf
        have := h f hf1
        unfold isG at hf2
        unfold cnd at this
        rw [if_pos (of_decide_eq_true hf2)] at this
        exact of_decide_eq_true this
      · rw [List.mem_singleton] at hy; omega
theorem low_nn {fs : List Fc} {p : Int} : 0 ≤ lowI fs p := mxI_le (by simp)
theorem high_le {most : Int} {fs : List Fc} {p : Int} : highI most fs p ≤ most := mnI_le (by simp)
theorem high_nn {size most : Int} {fs : List Fc} (hm : 0 ≤ most) (ok : ∀ f ∈ fs, OkF size most f) {p : Int} : 0 ≤ highI most fs p := by
  unfold highI
  rw [le_mnI_iff (by simp)]
  intro y hy
  rcases List.mem_append.mp hy with hy | hy
  · obtain ⟨f, hf, rfl⟩ := List.mem_map.mp hy
    exact (ok f (List.mem_filter.mp (List.mem_filter.mp hf).1).1).v
  · rw [List.mem_singleton] at hy; omega
theorem filter_between {n lo hi : Nat} (h1 : lo ≤ hi) (h2 : hi < n) : (List.range n).filter (fun x => decide (lo ≤ x) && decide (x ≤ hi)) = List.range' lo (hi + 1 - lo) := by
  have e : List.range n = List.range' 0 lo ++ (List.range' lo (hi + 1 - lo) ++ List.range' (hi + 1) (n - (hi + 1))) := by
    rw [List.range_eq_range']
    have a1 := List.range'_append (s := lo) (m := hi + 1 - lo) (n := n - (hi + 1)) (step := 1)
    rw [show lo + 1 * (hi + 1 - lo) = hi + 1 by omega] at a1
    rw [a1]
    have a2 := List.range'_append (s := 0) (m := lo) (n := hi + 1 - lo + (n - (hi + 1))) (step := 1)
    rw [show 0 + 1 * lo = lo by omega] at a2
    rw [a2, show lo + (hi + 1 - lo + (n - (hi + 1))) = n by omega]
  rw [e, List.filter_append, List.filter_append]
  have f1 : (List.range' 0 lo).filter (fun x => decide (lo ≤ x) && decide (x ≤ hi)) = [] := by
    rw [List.filter_eq_nil_iff]
    intro x hx
    have := List.mem_range'_1.mp hx
    simp
    omega
  have f2 : (List.range' lo (hi + 1 - lo)).filter (fun x => decide (lo ≤ x) && decide (x ≤ hi)) = List.range' lo (hi + 1 - lo) := by
    rw [List.filter_eq_self]
    intro x hx
    have := List.mem_range'_1.mp hx
    simp
    omega
  have f3 : (List.range' (hi + 1) (n - (hi + 1))).filter (fun x => decide (lo ≤ x) && decide (x ≤ hi)) = [] := by
    rw [List.filter_eq_nil_iff]
    intro x hx
    have := List.mem_range'_1.mp hx
    simp
    omega
  rw [f1, f2, f3]
  simp
end PG

set_option maxRecDepth 100000
set_option maxHeartbeats 4000000
namespace K91
open PySem PySem.Spec PyProof.Rows WB PG
open L2 (atI ixN atI_nat)
section
variable {a b c d e f : PyData}
theorem at6_0 : atI [a, b, c, d, e, f] 0 = some a := rfl
theorem at6_1 : atI [a, b, c, d, e, f] 1 = some b := rfl
theorem at6_2 : atI [a, b, c, d, e, f] 2 = some c := rfl
theorem at6_3 : atI [a, b, c, d, e, f] 3 = some d := rfl
theorem at6_4 : atI [a, b, c, d, e, f] 4 = some e := rfl
theorem at6_5 : atI [a, b, c, d, e, f] 5 = some f := rfl
end
theorem look_fact_rs {c : Nat} {s m t f : DV} {st : List Cell} (hs : s ≠ .un) (hm : m ≠ .un) (ht : t ≠ .un) (h : m_look_told [s, m, t] st = .rs c st) : m_look_fact [s, m, t, f] st = .rs c st := by
  unfold m_look_fact fnD b_look_fact
  cases s <;> cases m <;> cases t <;> simp_all [sSeq, sExpr, dCall, dCons, dVar, dNil]
abbrev six (size most : Int) (ds : List PyData) (row fact : PyData) (n : Int) : PyData := .list [.int size, .int most, .list ds, row, fact, .int n]
theorem one_b_rs (kd : Nat) (h1 : 13 ≤ kd) (hk : kd < 21) (c : Nat) (size most : Int) (ds : List PyData) (row fact : PyData) (n : Int) (st : List Cell) (h : m_look_told [.dat (.int size), .dat (.int most), .dat (.list ds)] st = .rs c st) : m__law_one_b [.dat (.int (kd : Nat)), .dat (six size most ds row fact n)] st = .rs c st := by
  have hf : ∀ f, m_look_fact [.dat (.int size), .dat (.int most), .dat (.list ds), f] st = .rs c st := fun f => look_fact_rs (by simp) (by simp) (by simp) h
  unfold m__law_one_b fnD b__law_one_b
  match kd, h1, hk with
  | 13, _, _ => unfold m_worths fnD b_worths; simp [sSeq, sIf, sNil, sRet, sRetN, sSet, sExpr, sRaise, sBreak, sCont, sUnp, setAll, dVar, dC, dOp, dT, dB, dChain, dChain3, dAnd, dOr, dNot, dIf, dAndV, dOrV, dNotV, dCB, dCons, dNil, dCall, dMtd, gLen, gMax, gMin, gSum, gAllB, gAnyB, gSorted, gList, gTuple, gInt, gAbs, dAdd, dInt, dInt0, dMul, dNeg, dCmp, dEq, dNe, dIsN, dNotN, dIn, dIx, dSl, oNone, oSome, dLst, dTup, frzAll, frzV, newL, rdL, rdM, rdT, rdD, truD, dTru, mAppend, mInsert, mExtend, mPopAt, mIndex, mCount, dIsI, cMod, cDiv, cPow, cMul, iRange1, iRange2, WB.iList, WB.iTup, iPtr, sTry, hf, at6_0, at6_1, at6_2, at6_3, at6_4, at6_5]
  | 14, _, _ => unfold m_needless fnD b_needless; simp [sSeq, sIf, sNil, sRet, sRetN, sSet, sExpr, sRaise, sBreak, sCont, sUnp, setAll, dVar, dC, dOp, dT, dB, dChain, dChain3, dAnd, dOr, dNot, dIf, dAndV, dOrV, dNotV, dCB, dCons, dNil, dCall, dMtd, gLen, gMax, gMin, gSum, gAllB, gAnyB, gSorted, gList, gTuple, gInt, gAbs, dAdd, dInt, dInt0, dMul, dNeg, dCmp, dEq, dNe, dIsN, dNotN, dIn, dIx, dSl, oNone, oSome, dLst, dTup, frzAll, frzV, newL, rdL, rdM, rdT, rdD, truD, dTru, mAppend, mInsert, mExtend, mPopAt, mIndex, mCount, dIsI, cMod, cDiv, cPow, cMul, iRange1, iRange2, WB.iList, WB.iTup, iPtr, sTry, h, at6_0, at6_1, at6_2, at6_3, at6_4, at6_5]
  | 15, _, _ => unfold m_lessened fnD b_lessened; simp [sSeq, sIf, sNil, sRet, sRetN, sSet, sExpr, sRaise, sBreak, sCont, sUnp, setAll, dVar, dC, dOp, dT, dB, dChain, dChain3, dAnd, dOr, dNot, dIf, dAndV, dOrV, dNotV, dCB, dCons, dNil, dCall, dMtd, gLen, gMax, gMin, gSum, gAllB, gAnyB, gSorted, gList, gTuple, gInt, gAbs, dAdd, dInt, dInt0, dMul, dNeg, dCmp, dEq, dNe, dIsN, dNotN, dIn, dIx, dSl, oNone, oSome, dLst, dTup, frzAll, frzV, newL, rdL, rdM, rdT, rdD, truD, dTru, mAppend, mInsert, mExtend, mPopAt, mIndex, mCount, dIsI, cMod, cDiv, cPow, cMul, iRange1, iRange2, WB.iList, WB.iTup, iPtr, sTry, h, at6_0, at6_1, at6_2, at6_3, at6_4, at6_5]
  | 16, _, _ => unfold m_follows fnD b_follows; simp [sSeq, sIf, sNil, sRet, sRetN, sSet, sExpr, sRaise, sBreak, sCont, sUnp, setAll, dVar, dC, dOp, dT, dB, dChain, dChain3, dAnd, dOr, dNot, dIf, dAndV, dOrV, dNotV, dCB, dCons, dNil, dCall, dMtd, gLen, gMax, gMin, gSum, gAllB, gAnyB, gSorted, gList, gTuple, gInt, gAbs, dAdd, dInt, dInt0, dMul, dNeg, dCmp, dEq, dNe, dIsN, dNotN, dIn, dIx, dSl, oNone, oSome, dLst, dTup, frzAll, frzV, newL, rdL, rdM, rdT, rdD, truD, dTru, mAppend, mInsert, mExtend, mPopAt, mIndex, mCount, dIsI, cMod, cDiv, cPow, cMul, iRange1, iRange2, WB.iList, WB.iTup, iPtr, sTry, hf, at6_0, at6_1, at6_2, at6_3, at6_4, at6_5]
  | 17, _, _ => unfold m_are_alike fnD b_are_alike; simp [sSeq, sIf, sNil, sRet, sRetN, sSet, sExpr, sRaise, sBreak, sCont, sUnp, setAll, dVar, dC, dOp, dT, dB, dChain, dChain3, dAnd, dOr, dNot, dIf, dAndV, dOrV, dNotV, dCB, dCons, dNil, dCall, dMtd, gLen, gMax, gMin, gSum, gAllB, gAnyB, gSorted, gList, gTuple, gInt, gAbs, dAdd, dInt, dInt0, dMul, dNeg, dCmp, dEq, dNe, dIsN, dNotN, dIn, dIx, dSl, oNone, oSome, dLst, dTup, frzAll, frzV, newL, rdL, rdM, rdT, rdD, truD, dTru, mAppend, mInsert, mExtend, mPopAt, mIndex, mCount, dIsI, cMod, cDiv, cPow, cMul, iRange1, iRange2, WB.iList, WB.iTup, iPtr, sTry, h, at6_0, at6_1, at6_2, at6_3, at6_4, at6_5]
  | 18, _, _ => unfold m_parting fnD b_parting; simp [sSeq, sIf, sNil, sRet, sRetN, sSet, sExpr, sRaise, sBreak, sCont, sUnp, setAll, dVar, dC, dOp, dT, dB, dChain, dChain3, dAnd, dOr, dNot, dIf, dAndV, dOrV, dNotV, dCB, dCons, dNil, dCall, dMtd, gLen, gMax, gMin, gSum, gAllB, gAnyB, gSorted, gList, gTuple, gInt, gAbs, dAdd, dInt, dInt0, dMul, dNeg, dCmp, dEq, dNe, dIsN, dNotN, dIn, dIx, dSl, oNone, oSome, dLst, dTup, frzAll, frzV, newL, rdL, rdM, rdT, rdD, truD, dTru, mAppend, mInsert, mExtend, mPopAt, mIndex, mCount, dIsI, cMod, cDiv, cPow, cMul, iRange1, iRange2, WB.iList, WB.iTup, iPtr, sTry, hf, at6_0, at6_1, at6_2, at6_3, at6_4, at6_5]
  | 19, _, _ => unfold m_first_apart fnD b_first_apart; simp [sSeq, sIf, sNil, sRet, sRetN, sSet, sExpr, sRaise, sBreak, sCont, sUnp, setAll, dVar, dC, dOp, dT, dB, dChain, dChain3, dAnd, dOr, dNot, dIf, dAndV, dOrV, dNotV, dCB, dCons, dNil, dCall, dMtd, gLen, gMax, gMin, gSum, gAllB, gAnyB, gSorted, gList, gTuple, gInt, gAbs, dAdd, dInt, dInt0, dMul, dNeg, dCmp, dEq, dNe, dIsN, dNotN, dIn, dIx, dSl, oNone, oSome, dLst, dTup, frzAll, frzV, newL, rdL, rdM, rdT, rdD, truD, dTru, mAppend, mInsert, mExtend, mPopAt, mIndex, mCount, dIsI, cMod, cDiv, cPow, cMul, iRange1, iRange2, WB.iList, WB.iTup, iPtr, sTry, h, at6_0, at6_1, at6_2, at6_3, at6_4, at6_5]
  | 20, _, _ => unfold m_written fnD b_written; simp [sSeq, sIf, sNil, sRet, sRetN, sSet, sExpr, sRaise, sBreak, sCont, sUnp, setAll, dVar, dC, dOp, dT, dB, dChain, dChain3, dAnd, dOr, dNot, dIf, dAndV, dOrV, dNotV, dCB, dCons, dNil, dCall, dMtd, gLen, gMax, gMin, gSum, gAllB, gAnyB, gSorted, gList, gTuple, gInt, gAbs, dAdd, dInt, dInt0, dMul, dNeg, dCmp, dEq, dNe, dIsN, dNotN, dIn, dIx, dSl, oNone, oSome, dLst, dTup, frzAll, frzV, newL, rdL, rdM, rdT, rdD, truD, dTru, mAppend, mInsert, mExtend, mPopAt, mIndex, mCount, dIsI, cMod, cDiv, cPow, cMul, iRange1, iRange2, WB.iList, WB.iTup, iPtr, sTry, h, at6_0, at6_1, at6_2, at6_3, at6_4, at6_5]
  | n + 21, _, h => exact absurd h (by omega)
theorem one_rs (kd : Nat) (hk : kd < 21) (c : Nat) (size most : Int) (ds : List PyData) (row fact : PyData) (n : Int) (st : List Cell) (h : m_look_told [.dat (.int size), .dat (.int most), .dat (.list ds)] st = .rs c st) : m__law_one [.dat (.int (kd : Nat)), .dat (six size most ds row fact n)] st = .rs c st := by
  by_cases hb : 13 ≤ kd
  · have hq := one_b_rs kd hb hk c size most ds row fact n st h
    unfold m__law_one fnD b__law_one
    unfold six at hq ⊢
    match kd, hb, hk, hq with
    | 13, _, _, hq => rw [show ((13 : Nat) : Int) = 13 from rfl] at hq; simp [sSeq, sIf, sNil, sRet, sRetN, sSet, sExpr, sRaise, sBreak, sCont, sUnp, setAll, dVar, dC, dOp, dT, dB, dChain, dChain3, dAnd, dOr, dNot, dIf, dAndV, dOrV, dNotV, dCB, dCons, dNil, dCall, dMtd, gLen, gMax, gMin, gSum, gAllB, gAnyB, gSorted, gList, gTuple, gInt, gAbs, dAdd, dInt, dInt0, dMul, dNeg, dCmp, dEq, dNe, dIsN, dNotN, dIn, dIx, dSl, oNone, oSome, dLst, dTup, frzAll, frzV, newL, rdL, rdM, rdT, rdD, truD, dTru, mAppend, mInsert, mExtend, mPopAt, mIndex, mCount, dIsI, cMod, cDiv, cPow, cMul, iRange1, iRange2, WB.iList, WB.iTup, iPtr, sTry, hq, at6_0, at6_1, at6_2, at6_3, at6_4, at6_5]
    | 14, _, _, hq => rw [show ((14 : Nat) : Int) = 14 from rfl] at hq; simp [sSeq, sIf, sNil, sRet, sRetN, sSet, sExpr, sRaise, sBreak, sCont, sUnp, setAll, dVar, dC, dOp, dT, dB, dChain, dChain3, dAnd, dOr, dNot, dIf, dAndV, dOrV, dNotV, dCB, dCons, dNil, dCall, dMtd, gLen, gMax, gMin, gSum, gAllB, gAnyB, gSorted, gList, gTuple, gInt, gAbs, dAdd, dInt, dInt0, dMul, dNeg, dCmp, dEq, dNe, dIsN, dNotN, dIn, dIx, dSl, oNone, oSome, dLst, dTup, frzAll, frzV, newL, rdL, rdM, rdT, rdD, truD, dTru, mAppend, mInsert, mExtend, mPopAt, mIndex, mCount, dIsI, cMod, cDiv, cPow, cMul, iRange1, iRange2, WB.iList, WB.iTup, iPtr, sTry, hq, at6_0, at6_1, at6_2, at6_3, at6_4, at6_5]
    | 15, _, _, hq => rw [show ((15 : Nat) : Int) = 15 from rfl] at hq; simp [sSeq, sIf, sNil, sRet, sRetN, sSet, sExpr, sRaise, sBreak, sCont, sUnp, setAll, dVar, dC, dOp, dT, dB, dChain, dChain3, dAnd, dOr, dNot, dIf, dAndV, dOrV, dNotV, dCB, dCons, dNil, dCall, dMtd, gLen, gMax, gMin, gSum, gAllB, gAnyB, gSorted, gList, gTuple, gInt, gAbs, dAdd, dInt, dInt0, dMul, dNeg, dCmp, dEq, dNe, dIsN, dNotN, dIn, dIx, dSl, oNone, oSome, dLst, dTup, frzAll, frzV, newL, rdL, rdM, rdT, rdD, truD, dTru, mAppend, mInsert, mExtend, mPopAt, mIndex, mCount, dIsI, cMod, cDiv, cPow, cMul, iRange1, iRange2, WB.iList, WB.iTup, iPtr, sTry, hq, at6_0, at6_1, at6_2, at6_3, at6_4, at6_5]
    | 16, _, _, hq => rw [show ((16 : Nat) : Int) = 16 from rfl] at hq; simp [sSeq, sIf, sNil, sRet, sRetN, sSet, sExpr, sRaise, sBreak, sCont, sUnp, setAll, dVar, dC, dOp, dT, dB, dChain, dChain3, dAnd, dOr, dNot, dIf, dAndV, dOrV, dNotV, dCB, dCons, dNil, dCall, dMtd, gLen, gMax, gMin, gSum, gAllB, gAnyB, gSorted, gList, gTuple, gInt, gAbs, dAdd, dInt, dInt0, dMul, dNeg, dCmp, dEq, dNe, dIsN, dNotN, dIn, dIx, dSl, oNone, oSome, dLst, dTup, frzAll, frzV, newL, rdL, rdM, rdT, rdD, truD, dTru, mAppend, mInsert, mExtend, mPopAt, mIndex, mCount, dIsI, cMod, cDiv, cPow, cMul, iRange1, iRange2, WB.iList, WB.iTup, iPtr, sTry, hq, at6_0, at6_1, at6_2, at6_3, at6_4, at6_5]
    | 17, _, _, hq => rw [show ((17 : Nat) : Int) = 17 from rfl] at hq; simp [sSeq, sIf, sNil, sRet, sRetN, sSet, sExpr, sRaise, sBreak, sCont, sUnp, setAll, dVar, dC, dOp, dT, dB, dChain, dChain3, dAnd, dOr, dNot, dIf, dAndV, dOrV, dNotV, dCB, dCons, dNil, dCall, dMtd, gLen, gMax, gMin, gSum, gAllB, gAnyB, gSorted, gList, gTuple, gInt, gAbs, dAdd, dInt, dInt0, dMul, dNeg, dCmp, dEq, dNe, dIsN, dNotN, dIn, dIx, dSl, oNone, oSome, dLst, dTup, frzAll, frzV, newL, rdL, rdM, rdT, rdD, truD, dTru, mAppend, mInsert, mExtend, mPopAt, mIndex, mCount, dIsI, cMod, cDiv, cPow, cMul, iRange1, iRange2, WB.iList, WB.iTup, iPtr, sTry, hq, at6_0, at6_1, at6_2, at6_3, at6_4, at6_5]
    | 18, _, _, hq => rw [show ((18 : Nat) : Int) = 18 from rfl] at hq; simp [sSeq, sIf, sNil, sRet, sRetN, sSet, sExpr, sRaise, sBreak, sCont, sUnp, setAll, dVar, dC, dOp, dT, dB, dChain, dChain3, dAnd, dOr, dNot, dIf, dAndV, dOrV, dNotV, dCB, dCons, dNil, dCall, dMtd, gLen, gMax, gMin, gSum, gAllB, gAnyB, gSorted, gList, gTuple, gInt, gAbs, dAdd, dInt, dInt0, dMul, dNeg, dCmp, dEq, dNe, dIsN, dNotN, dIn, dIx, dSl, oNone, oSome, dLst, dTup, frzAll, frzV, newL, rdL, rdM, rdT, rdD, truD, dTru, mAppend, mInsert, mExtend, mPopAt, mIndex, mCount, dIsI, cMod, cDiv, cPow, cMul, iRange1, iRange2, WB.iList, WB.iTup, iPtr, sTry, hq, at6_0, at6_1, at6_2, at6_3, at6_4, at6_5]
    | 19, _, _, hq => rw [show ((19 : Nat) : Int) = 19 from rfl] at hq; simp [sSeq, sIf, sNil, sRet, sRetN, sSet, sExpr, sRaise, sBreak, sCont, sUnp, setAll, dVar, dC, dOp, dT, dB, dChain, dChain3, dAnd, dOr, dNot, dIf, dAndV, dOrV, dNotV, dCB, dCons, dNil, dCall, dMtd, gLen, gMax, gMin, gSum, gAllB, gAnyB, gSorted, gList, gTuple, gInt, gAbs, dAdd, dInt, dInt0, dMul, dNeg, dCmp, dEq, dNe, dIsN, dNotN, dIn, dIx, dSl, oNone, oSome, dLst, dTup, frzAll, frzV, newL, rdL, rdM, rdT, rdD, truD, dTru, mAppend, mInsert, mExtend, mPopAt, mIndex, mCount, dIsI, cMod, cDiv, cPow, cMul, iRange1, iRange2, WB.iList, WB.iTup, iPtr, sTry, hq, at6_0, at6_1, at6_2, at6_3, at6_4, at6_5]
    | 20, _, _, hq => rw [show ((20 : Nat) : Int) = 20 from rfl] at hq; simp [sSeq, sIf, sNil, sRet, sRetN, sSet, sExpr, sRaise, sBreak, sCont, sUnp, setAll, dVar, dC, dOp, dT, dB, dChain, dChain3, dAnd, dOr, dNot, dIf, dAndV, dOrV, dNotV, dCB, dCons, dNil, dCall, dMtd, gLen, gMax, gMin, gSum, gAllB, gAnyB, gSorted, gList, gTuple, gInt, gAbs, dAdd, dInt, dInt0, dMul, dNeg, dCmp, dEq, dNe, dIsN, dNotN, dIn, dIx, dSl, oNone, oSome, dLst, dTup, frzAll, frzV, newL, rdL, rdM, rdT, rdD, truD, dTru, mAppend, mInsert, mExtend, mPopAt, mIndex, mCount, dIsI, cMod, cDiv, cPow, cMul, iRange1, iRange2, WB.iList, WB.iTup, iPtr, sTry, hq, at6_0, at6_1, at6_2, at6_3, at6_4, at6_5]
    | n + 21, _, h, _ => exact absurd h (by omega)
  · unfold m__law_one fnD b__law_one
    match kd, hb with
    | 0, _ => unfold m_broken fnD b_broken; simp [sSeq, sIf, sNil, sRet, sRetN, sSet, sExpr, sRaise, sBreak, sCont, sUnp, setAll, dVar, dC, dOp, dT, dB, dChain, dChain3, dAnd, dOr, dNot, dIf, dAndV, dOrV, dNotV, dCB, dCons, dNil, dCall, dMtd, gLen, gMax, gMin, gSum, gAllB, gAnyB, gSorted, gList, gTuple, gInt, gAbs, dAdd, dInt, dInt0, dMul, dNeg, dCmp, dEq, dNe, dIsN, dNotN, dIn, dIx, dSl, oNone, oSome, dLst, dTup, frzAll, frzV, newL, rdL, rdM, rdT, rdD, truD, dTru, mAppend, mInsert, mExtend, mPopAt, mIndex, mCount, dIsI, cMod, cDiv, cPow, cMul, iRange1, iRange2, WB.iList, WB.iTup, iPtr, sTry, h, at6_0, at6_1, at6_2, at6_3, at6_4, at6_5]
    | 1, _ => unfold m_bounds fnD b_bounds; simp [sSeq, sIf, sNil, sRet, sRetN, sSet, sExpr, sRaise, sBreak, sCont, sUnp, setAll, dVar, dC, dOp, dT, dB, dChain, dChain3, dAnd, dOr, dNot, dIf, dAndV, dOrV, dNotV, dCB, dCons, dNil, dCall, dMtd, gLen, gMax, gMin, gSum, gAllB, gAnyB, gSorted, gList, gTuple, gInt, gAbs, dAdd, dInt, dInt0, dMul, dNeg, dCmp, dEq, dNe, dIsN, dNotN, dIn, dIx, dSl, oNone, oSome, dLst, dTup, frzAll, frzV, newL, rdL, rdM, rdT, rdD, truD, dTru, mAppend, mInsert, mExtend, mPopAt, mIndex, mCount, dIsI, cMod, cDiv, cPow, cMul, iRange1, iRange2, WB.iList, WB.iTup, iPtr, sTry, h, at6_0, at6_1, at6_2, at6_3, at6_4, at6_5]
    | 2, _ => unfold m_how_many fnD b_how_many; simp [sSeq, sIf, sNil, sRet, sRetN, sSet, sExpr, sRaise, sBreak, sCont, sUnp, setAll, dVar, dC, dOp, dT, dB, dChain, dChain3, dAnd, dOr, dNot, dIf, dAndV, dOrV, dNotV, dCB, dCons, dNil, dCall, dMtd, gLen, gMax, gMin, gSum, gAllB, gAnyB, gSorted, gList, gTuple, gInt, gAbs, dAdd, dInt, dInt0, dMul, dNeg, dCmp, dEq, dNe, dIsN, dNotN, dIn, dIx, dSl, oNone, oSome, dLst, dTup, frzAll, frzV, newL, rdL, rdM, rdT, rdD, truD, dTru, mAppend, mInsert, mExtend, mPopAt, mIndex, mCount, dIsI, cMod, cDiv, cPow, cMul, iRange1, iRange2, WB.iList, WB.iTup, iPtr, sTry, h, at6_0, at6_1, at6_2, at6_3, at6_4, at6_5]
    | 3, _ => unfold m_number_of fnD b_number_of; simp [sSeq, sIf, sNil, sRet, sRetN, sSet, sExpr, sRaise, sBreak, sCont, sUnp, setAll, dVar, dC, dOp, dT, dB, dChain, dChain3, dAnd, dOr, dNot, dIf, dAndV, dOrV, dNotV, dCB, dCons, dNil, dCall, dMtd, gLen, gMax, gMin, gSum, gAllB, gAnyB, gSorted, gList, gTuple, gInt, gAbs, dAdd, dInt, dInt0, dMul, dNeg, dCmp, dEq, dNe, dIsN, dNotN, dIn, dIx, dSl, oNone, oSome, dLst, dTup, frzAll, frzV, newL, rdL, rdM, rdT, rdD, truD, dTru, mAppend, mInsert, mExtend, mPopAt, mIndex, mCount, dIsI, cMod, cDiv, cPow, cMul, iRange1, iRange2, WB.iList, WB.iTup, iPtr, sTry, h, at6_0, at6_1, at6_2, at6_3, at6_4, at6_5]
    | 4, _ => unfold m_row_at fnD b_row_at; simp [sSeq, sIf, sNil, sRet, sRetN, sSet, sExpr, sRaise, sBreak, sCont, sUnp, setAll, dVar, dC, dOp, dT, dB, dChain, dChain3, dAnd, dOr, dNot, dIf, dAndV, dOrV, dNotV, dCB, dCons, dNil, dCall, dMtd, gLen, gMax, gMin, gSum, gAllB, gAnyB, gSorted, gList, gTuple, gInt, gAbs, dAdd, dInt, dInt0, dMul, dNeg, dCmp, dEq, dNe, dIsN, dNotN, dIn, dIx, dSl, oNone, oSome, dLst, dTup, frzAll, frzV, newL, rdL, rdM, rdT, rdD, truD, dTru, mAppend, mInsert, mExtend, mPopAt, mIndex, mCount, dIsI, cMod, cDiv, cPow, cMul, iRange1, iRange2, WB.iList, WB.iTup, iPtr, sTry, h, at6_0, at6_1, at6_2, at6_3, at6_4, at6_5]
    | 5, _ => unfold m_may fnD b_may; simp [sSeq, sIf, sNil, sRet, sRetN, sSet, sExpr, sRaise, sBreak, sCont, sUnp, setAll, dVar, dC, dOp, dT, dB, dChain, dChain3, dAnd, dOr, dNot, dIf, dAndV, dOrV, dNotV, dCB, dCons, dNil, dCall, dMtd, gLen, gMax, gMin, gSum, gAllB, gAnyB, gSorted, gList, gTuple, gInt, gAbs, dAdd, dInt, dInt0, dMul, dNeg, dCmp, dEq, dNe, dIsN, dNotN, dIn, dIx, dSl, oNone, oSome, dLst, dTup, frzAll, frzV, newL, rdL, rdM, rdT, rdD, truD, dTru, mAppend, mInsert, mExtend, mPopAt, mIndex, mCount, dIsI, cMod, cDiv, cPow, cMul, iRange1, iRange2, WB.iList, WB.iTup, iPtr, sTry, h, at6_0, at6_1, at6_2, at6_3, at6_4, at6_5]
    | 6, _ => unfold m_sure fnD b_sure; simp [sSeq, sIf, sNil, sRet, sRetN, sSet, sExpr, sRaise, sBreak, sCont, sUnp, setAll, dVar, dC, dOp, dT, dB, dChain, dChain3, dAnd, dOr, dNot, dIf, dAndV, dOrV, dNotV, dCB, dCons, dNil, dCall, dMtd, gLen, gMax, gMin, gSum, gAllB, gAnyB, gSorted, gList, gTuple, gInt, gAbs, dAdd, dInt, dInt0, dMul, dNeg, dCmp, dEq, dNe, dIsN, dNotN, dIn, dIx, dSl, oNone, oSome, dLst, dTup, frzAll, frzV, newL, rdL, rdM, rdT, rdD, truD, dTru, mAppend, mInsert, mExtend, mPopAt, mIndex, mCount, dIsI, cMod, cDiv, cPow, cMul, iRange1, iRange2, WB.iList, WB.iTup, iPtr, sTry, h, at6_0, at6_1, at6_2, at6_3, at6_4, at6_5]
    | 7, _ => unfold m_clash fnD b_clash; simp [sSeq, sIf, sNil, sRet, sRetN, sSet, sExpr, sRaise, sBreak, sCont, sUnp, setAll, dVar, dC, dOp, dT, dB, dChain, dChain3, dAnd, dOr, dNot, dIf, dAndV, dOrV, dNotV, dCB, dCons, dNil, dCall, dMtd, gLen, gMax, gMin, gSum, gAllB, gAnyB, gSorted, gList, gTuple, gInt, gAbs, dAdd, dInt, dInt0, dMul, dNeg, dCmp, dEq, dNe, dIsN, dNotN, dIn, dIx, dSl, oNone, oSome, dLst, dTup, frzAll, frzV, newL, rdL, rdM, rdT, rdD, truD, dTru, mAppend, mInsert, mExtend, mPopAt, mIndex, mCount, dIsI, cMod, cDiv, cPow, cMul, iRange1, iRange2, WB.iList, WB.iTup, iPtr, sTry, h, at6_0, at6_1, at6_2, at6_3, at6_4, at6_5]
    | 8, _ => unfold m_is_clash fnD b_is_clash; simp [sSeq, sIf, sNil, sRet, sRetN, sSet, sExpr, sRaise, sBreak, sCont, sUnp, setAll, dVar, dC, dOp, dT, dB, dChain, dChain3, dAnd, dOr, dNot, dIf, dAndV, dOrV, dNotV, dCB, dCons, dNil, dCall, dMtd, gLen, gMax, gMin, gSum, gAllB, gAnyB, gSorted, gList, gTuple, gInt, gAbs, dAdd, dInt, dInt0, dMul, dNeg, dCmp, dEq, dNe, dIsN, dNotN, dIn, dIx, dSl, oNone, oSome, dLst, dTup, frzAll, frzV, newL, rdL, rdM, rdT, rdD, truD, dTru, mAppend, mInsert, mExtend, mPopAt, mIndex, mCount, dIsI, cMod, cDiv, cPow, cMul, iRange1, iRange2, WB.iList, WB.iTup, iPtr, sTry, h, at6_0, at6_1, at6_2, at6_3, at6_4, at6_5]
    | 9, _ => unfold m_left_out fnD b_left_out; simp [sSeq, sIf, sNil, sRet, sRetN, sSet, sExpr, sRaise, sBreak, sCont, sUnp, setAll, dVar, dC, dOp, dT, dB, dChain, dChain3, dAnd, dOr, dNot, dIf, dAndV, dOrV, dNotV, dCB, dCons, dNil, dCall, dMtd, gLen, gMax, gMin, gSum, gAllB, gAnyB, gSorted, gList, gTuple, gInt, gAbs, dAdd, dInt, dInt0, dMul, dNeg, dCmp, dEq, dNe, dIsN, dNotN, dIn, dIx, dSl, oNone, oSome, dLst, dTup, frzAll, frzV, newL, rdL, rdM, rdT, rdD, truD, dTru, mAppend, mInsert, mExtend, mPopAt, mIndex, mCount, dIsI, cMod, cDiv, cPow, cMul, iRange1, iRange2, WB.iList, WB.iTup, iPtr, sTry, h, at6_0, at6_1, at6_2, at6_3, at6_4, at6_5]
    | 10, _ => unfold m_first_row fnD b_first_row; simp [sSeq, sIf, sNil, sRet, sRetN, sSet, sExpr, sRaise, sBreak, sCont, sUnp, setAll, dVar, dC, dOp, dT, dB, dChain, dChain3, dAnd, dOr, dNot, dIf, dAndV, dOrV, dNotV, dCB, dCons, dNil, dCall, dMtd, gLen, gMax, gMin, gSum, gAllB, gAnyB, gSorted, gList, gTuple, gInt, gAbs, dAdd, dInt, dInt0, dMul, dNeg, dCmp, dEq, dNe, dIsN, dNotN, dIn, dIx, dSl, oNone, oSome, dLst, dTup, frzAll, frzV, newL, rdL, rdM, rdT, rdD, truD, dTru, mAppend, mInsert, mExtend, mPopAt, mIndex, mCount, dIsI, cMod, cDiv, cPow, cMul, iRange1, iRange2, WB.iList, WB.iTup, iPtr, sTry, h, at6_0, at6_1, at6_2, at6_3, at6_4, at6_5]
    | 11, _ => unfold m_mended fnD b_mended; simp [sSeq, sIf, sNil, sRet, sRetN, sSet, sExpr, sRaise, sBreak, sCont, sUnp, setAll, dVar, dC, dOp, dT, dB, dChain, dChain3, dAnd, dOr, dNot, dIf, dAndV, dOrV, dNotV, dCB, dCons, dNil, dCall, dMtd, gLen, gMax, gMin, gSum, gAllB, gAnyB, gSorted, gList, gTuple, gInt, gAbs, dAdd, dInt, dInt0, dMul, dNeg, dCmp, dEq, dNe, dIsN, dNotN, dIn, dIx, dSl, oNone, oSome, dLst, dTup, frzAll, frzV, newL, rdL, rdM, rdT, rdD, truD, dTru, mAppend, mInsert, mExtend, mPopAt, mIndex, mCount, dIsI, cMod, cDiv, cPow, cMul, iRange1, iRange2, WB.iList, WB.iTup, iPtr, sTry, h, at6_0, at6_1, at6_2, at6_3, at6_4, at6_5]
    | 12, _ => unfold m_least_cost fnD b_least_cost; simp [sSeq, sIf, sNil, sRet, sRetN, sSet, sExpr, sRaise, sBreak, sCont, sUnp, setAll, dVar, dC, dOp, dT, dB, dChain, dChain3, dAnd, dOr, dNot, dIf, dAndV, dOrV, dNotV, dCB, dCons, dNil, dCall, dMtd, gLen, gMax, gMin, gSum, gAllB, gAnyB, gSorted, gList, gTuple, gInt, gAbs, dAdd, dInt, dInt0, dMul, dNeg, dCmp, dEq, dNe, dIsN, dNotN, dIn, dIx, dSl, oNone, oSome, dLst, dTup, frzAll, frzV, newL, rdL, rdM, rdT, rdD, truD, dTru, mAppend, mInsert, mExtend, mPopAt, mIndex, mCount, dIsI, cMod, cDiv, cPow, cMul, iRange1, iRange2, WB.iList, WB.iTup, iPtr, sTry, h, at6_0, at6_1, at6_2, at6_3, at6_4, at6_5]
    | n + 13, h => exact absurd (Nat.le_add_left _ _) h
def refW (w : Str) : PyData := .tuple [.str "refused", .str w]
theorem told_rs (kd : Int) (c : Nat) (w : Str) (hw : (c, w) ∈ [(0, ("row" : Str)), (1, "stretch"), (2, "size"), (3, "told"), (4, "no row"), (5, "number"), (6, "text")]) (x : PyData) (st : List Cell) (h : m__law_one [.dat (.int kd), .dat x] st = .rs c st) :
    m__law_told [.dat (.int kd), .dat x] st = .ok (.dat (refW w)) st := by
  have h2 := refusal_ok c w hw st
  unfold m__law_told fnD b__law_told ie1__law_told refW
  simp [sSeq, sIf, sNil, sRet, sRetN, sSet, sExpr, sRaise, sBreak, sCont, sUnp, setAll, dVar, dC, dOp, dT, dB, dChain, dChain3, dAnd, dOr, dNot, dIf, dAndV, dOrV, dNotV, dCB, dCons, dNil, dCall, dMtd, gLen, gMax, gMin, gSum, gAllB, gAnyB, gSorted, gList, gTuple, gInt, gAbs, dAdd, dInt, dInt0, dMul, dNeg, dCmp, dEq, dNe, dIsN, dNotN, dIn, dIx, dSl, oNone, oSome, dLst, dTup, frzAll, frzV, newL, rdL, rdM, rdT, rdD, truD, dTru, mAppend, mInsert, mExtend, mPopAt, mIndex, mCount, dIsI, cMod, cDiv, cPow, cMul, iRange1, iRange2, WB.iList, WB.iTup, iPtr, sTry, h, h2]
end K91

set_option maxRecDepth 100000
set_option maxHeartbeats 4000000
namespace K91
open PySem PySem.Spec PyProof.Rows WB PG
open L2 (atI ixN atI_nat)
theorem told_size (kd : Nat) (hk : kd < 21) {a b : Int} (h : szB a b = false) (fs : List Fc) (hl : fs.length ≤ 1000000) (row fact : PyData) (n : Int) (st : List Cell) : m__law_told [.dat (.int (kd : Nat)), .dat (six a b (fs.map fcD) row fact n)] st = .ok (.dat (refW "size")) st := by
  have e := look_told_eq a b fs st hl
  rw [h] at e
  exact told_rs kd 2 "size" (by simp) _ st (one_rs kd hk 2 a b _ row fact n st e)
theorem told_told (kd : Nat) (hk : kd < 21) {a b : Int} (h : szB a b = true) (fs : List Fc) (ht : tdB a b fs = false) (hl : fs.length ≤ 1000000) (row fact : PyData) (n : Int) (st : List Cell) : m__law_told [.dat (.int (kd : Nat)), .dat (six a b (fs.map fcD) row fact n)] st = .ok (.dat (refW "told")) st := by
  have e := look_told_eq a b fs st hl
  rw [h, ht] at e
  exact told_rs kd 3 "told" (by simp) _ st (one_rs kd hk 3 a b _ row fact n st e)
section
variable {a b : Int} (h : szB a b = true) (fs : List Fc) (ht : tdB a b fs = true) (hl : fs.length ≤ 1000)
include h ht hl
theorem told_row0 (rs : List Int) (hr : rowB rs = false) (hrl : rs.length ≤ 1000) (fact : PyData) (n : Int) (st : List Cell) : m__law_told [.dat (.int 0), .dat (six a b (fs.map fcD) (LI rs) fact n)] st = .ok (.dat (refW "row")) st := by
  have e3 := broken_eq a b rs fs st (by omega) hrl h ht
  rw [hr] at e3
  simp only [Bool.false_eq_true, if_false, LI, LF] at e3
  refine told_rs 0 0 "row" (by simp) _ st ?_
  unfold m__law_one fnD b__law_one
  simp [sSeq, sIf, sNil, sRet, sRetN, sSet, sExpr, sRaise, sBreak, sCont, sUnp, setAll, dVar, dC, dOp, dT, dB, dChain, dChain3, dAnd, dOr, dNot, dIf, dAndV, dOrV, dNotV, dCB, dCons, dNil, dCall, dMtd, gLen, gMax, gMin, gSum, gAllB, gAnyB, gSorted, gList, gTuple, gInt, gAbs, dAdd, dInt, dInt0, dMul, dNeg, dCmp, dEq, dNe, dIsN, dNotN, dIn, dIx, dSl, oNone, oSome, dLst, dTup, frzAll, frzV, newL, rdL, rdM, rdT, rdD, truD, dTru, mAppend, mInsert, mExtend, mPopAt, mIndex, mCount, dIsI, cMod, cDiv, cPow, cMul, iRange1, iRange2, WB.iList, WB.iTup, iPtr, sTry, e3, at6_0, at6_1, at6_2, at6_3, at6_4, at6_5]
theorem told_row3 (rs : List Int) (hr : rowB rs = false) (hrl : rs.length ≤ 1000) (fact : PyData) (n : Int) (st : List Cell) : m__law_told [.dat (.int 3), .dat (six a b (fs.map fcD) (LI rs) fact n)] st = .ok (.dat (refW "row")) st := by
  have e := look_told_eq a b fs st (by omega)
  rw [if_pos h, if_pos ht] at e
  have e2 := look_row_eq rs st (by omega)
  rw [hr] at e2
  simp only [Bool.false_eq_true, if_false, LI, LF] at e e2
  refine told_rs 3 0 "row" (by simp) _ st ?_
  unfold m__law_one fnD b__law_one m_number_of fnD b_number_of
  simp [sSeq, sIf, sNil, sRet, sRetN, sSet, sExpr, sRaise, sBreak, sCont, sUnp, setAll, dVar, dC, dOp, dT, dB, dChain, dChain3, dAnd, dOr, dNot, dIf, dAndV, dOrV, dNotV, dCB, dCons, dNil, dCall, dMtd, gLen, gMax, gMin, gSum, gAllB, gAnyB, gSorted, gList, gTuple, gInt, gAbs, dAdd, dInt, dInt0, dMul, dNeg, dCmp, dEq, dNe, dIsN, dNotN, dIn, dIx, dSl, oNone, oSome, dLst, dTup, frzAll, frzV, newL, rdL, rdM, rdT, rdD, truD, dTru, mAppend, mInsert, mExtend, mPopAt, mIndex, mCount, dIsI, cMod, cDiv, cPow, cMul, iRange1, iRange2, WB.iList, WB.iTup, iPtr, sTry, e, e2, at6_0, at6_1, at6_2, at6_3, at6_4, at6_5]
theorem look_fact_no (f : Fc) (hf : okF a b f = false) (st : List Cell) : m_look_fact [.dat (.int a), .dat (.int b), .dat (LF fs), .dat (fcD f)] st = .rs 3 st := by
  have e := look_told_eq a b fs st (by omega)
  rw [if_pos h, if_pos ht] at e
  have e2 := is_fact_eq a b f st
  rw [hf] at e2
  unfold m_look_fact fnD b_look_fact
  generalize fcD f = y at e2 ⊢
  generalize fs.map fcD = ds at e ⊢
  simp [sSeq, sIf, sNil, sRet, sRetN, sSet, sExpr, sRaise, sBreak, sCont, sUnp, setAll, dVar, dC, dOp, dT, dB, dChain, dChain3, dAnd, dOr, dNot, dIf, dAndV, dOrV, dNotV, dCB, dCons, dNil, dCall, dMtd, gLen, gMax, gMin, gSum, gAllB, gAnyB, gSorted, gList, gTuple, gInt, gAbs, dAdd, dInt, dInt0, dMul, dNeg, dCmp, dEq, dNe, dIsN, dNotN, dIn, dIx, dSl, oNone, oSome, dLst, dTup, frzAll, frzV, newL, rdL, rdM, rdT, rdD, truD, dTru, mAppend, mInsert, mExtend, mPopAt, mIndex, mCount, dIsI, cMod, cDiv, cPow, cMul, iRange1, iRange2, WB.iList, WB.iTup, iPtr, sTry, e, e2]
theorem told_fact (kd : Nat) (hk : kd = 16 ∨ kd = 17 ∨ kd = 18 ∨ kd = 19) (f : Fc) (hf : okF a b f = false) (row : PyData) (n : Int) (st : List Cell) : m__law_told [.dat (.int (kd : Nat)), .dat (six a b (fs.map fcD) row (fcD f) n)] st = .ok (.dat (refW "told")) st := by
  have e := look_told_eq a b fs st (by omega)
  rw [if_pos h, if_pos ht] at e
  have e2 := look_fact_no h fs ht hl f hf st
  have hb : tdB a b [f] = false := by unfold tdB; simp [hf]
  have e3 : m_look_told [.dat (.int a), .dat (.int b), .dat (.list [fcD f])] st = .rs 3 st := by
    have q := look_told_eq a b [f] st (by simp)
    rw [if_pos h, hb] at q
    exact q
  refine told_rs kd 3 "told" (by simp) _ st ?_
  unfold LF at e e2
  generalize fcD f = y at e2 e3 ⊢
  generalize fs.map fcD = ds at e e2 ⊢
  have key : m__law_one_b [.dat (.int (kd : Nat)), .dat (six a b ds row y n)] st = .rs 3 st := by
    unfold m__law_one_b fnD b__law_one_b
    rcases hk with rfl | rfl | rfl | rfl
    · unfold m_follows fnD b_follows; simp [sSeq, sIf, sNil, sRet, sRetN, sSet, sExpr, sRaise, sBreak, sCont, sUnp, setAll, dVar, dC, dOp, dT, dB, dChain, dChain3, dAnd, dOr, dNot, dIf, dAndV, dOrV, dNotV, dCB, dCons, dNil, dCall, dMtd, gLen, gMax, gMin, gSum, gAllB, gAnyB, gSorted, gList, gTuple, gInt, gAbs, dAdd, dInt, dInt0, dMul, dNeg, dCmp, dEq, dNe, dIsN, dNotN, dIn, dIx, dSl, oNone, oSome, dLst, dTup, frzAll, frzV, newL, rdL, rdM, rdT, rdD, truD, dTru, mAppend, mInsert, mExtend, mPopAt, mIndex, mCount, dIsI, cMod, cDiv, cPow, cMul, iRange1, iRange2, WB.iList, WB.iTup, iPtr, sTry, e2, at6_0, at6_1, at6_2, at6_3, at6_4, at6_5]
    · unfold m_are_alike fnD b_are_alike; simp [sSeq, sIf, sNil, sRet, sRetN, sSet, sExpr, sRaise, sBreak, sCont, sUnp, setAll, dVar, dC, dOp, dT, dB, dChain, dChain3, dAnd, dOr, dNot, dIf, dAndV, dOrV, dNotV, dCB, dCons, dNil, dCall, dMtd, gLen, gMax, gMin, gSum, gAllB, gAnyB, gSorted, gList, gTuple, gInt, gAbs, dAdd, dInt, dInt0, dMul, dNeg, dCmp, dEq, dNe, dIsN, dNotN, dIn, dIx, dSl, oNone, oSome, dLst, dTup, frzAll, frzV, newL, rdL, rdM, rdT, rdD, truD, dTru, mAppend, mInsert, mExtend, mPopAt, mIndex, mCount, dIsI, cMod, cDiv, cPow, cMul, iRange1, iRange2, WB.iList, WB.iTup, iPtr, sTry, e, e3, at6_0, at6_1, at6_2, at6_3, at6_4, at6_5]
    · unfold m_parting fnD b_parting; simp [sSeq, sIf, sNil, sRet, sRetN, sSet, sExpr, sRaise, sBreak, sCont, sUnp, setAll, dVar, dC, dOp, dT, dB, dChain, dChain3, dAnd, dOr, dNot, dIf, dAndV, dOrV, dNotV, dCB, dCons, dNil, dCall, dMtd, gLen, gMax, gMin, gSum, gAllB, gAnyB, gSorted, gList, gTuple, gInt, gAbs, dAdd, dInt, dInt0, dMul, dNeg, dCmp, dEq, dNe, dIsN, dNotN, dIn, dIx, dSl, oNone, oSome, dLst, dTup, frzAll, frzV, newL, rdL, rdM, rdT, rdD, truD, dTru, mAppend, mInsert, mExtend, mPopAt, mIndex, mCount, dIsI, cMod, cDiv, cPow, cMul, iRange1, iRange2, WB.iList, WB.iTup, iPtr, sTry, e2, at6_0, at6_1, at6_2, at6_3, at6_4, at6_5]
    · unfold m_first_apart fnD b_first_apart; simp [sSeq, sIf, sNil, sRet, sRetN, sSet, sExpr, sRaise, sBreak, sCont, sUnp, setAll, dVar, dC, dOp, dT, dB, dChain, dChain3, dAnd, dOr, dNot, dIf, dAndV, dOrV, dNotV, dCB, dCons, dNil, dCall, dMtd, gLen, gMax, gMin, gSum, gAllB, gAnyB, gSorted, gList, gTuple, gInt, gAbs, dAdd, dInt, dInt0, dMul, dNeg, dCmp, dEq, dNe, dIsN, dNotN, dIn, dIx, dSl, oNone, oSome, dLst, dTup, frzAll, frzV, newL, rdL, rdM, rdT, rdD, truD, dTru, mAppend, mInsert, mExtend, mPopAt, mIndex, mCount, dIsI, cMod, cDiv, cPow, cMul, iRange1, iRange2, WB.iList, WB.iTup, iPtr, sTry, e, e3, at6_0, at6_1, at6_2, at6_3, at6_4, at6_5]
  unfold m__law_one fnD b__law_one
  unfold six at key ⊢
  rcases hk with rfl | rfl | rfl | rfl
  · rw [show ((16 : Nat) : Int) = 16 from rfl] at key; simp [sSeq, sIf, sNil, sRet, sRetN, sSet, sExpr, sRaise, sBreak, sCont, sUnp, setAll, dVar, dC, dOp, dT, dB, dChain, dChain3, dAnd, dOr, dNot, dIf, dAndV, dOrV, dNotV, dCB, dCons, dNil, dCall, dMtd, gLen, gMax, gMin, gSum, gAllB, gAnyB, gSorted, gList, gTuple, gInt, gAbs, dAdd, dInt, dInt0, dMul, dNeg, dCmp, dEq, dNe, dIsN, dNotN, dIn, dIx, dSl, oNone, oSome, dLst, dTup, frzAll, frzV, newL, rdL, rdM, rdT, rdD, truD, dTru, mAppend, mInsert, mExtend, mPopAt, mIndex, mCount, dIsI, cMod, cDiv, cPow, cMul, iRange1, iRange2, WB.iList, WB.iTup, iPtr, sTry, key, at6_0, at6_1, at6_2, at6_3, at6_4, at6_5]
  · rw [show ((17 : Nat) : Int) = 17 from rfl] at key; simp [sSeq, sIf, sNil, sRet, sRetN, sSet, sExpr, sRaise, sBreak, sCont, sUnp, setAll, dVar, dC, dOp, dT, dB, dChain, dChain3, dAnd, dOr, dNot, dIf, dAndV, dOrV, dNotV, dCB, dCons, dNil, dCall, dMtd, gLen, gMax, gMin, gSum, gAllB, gAnyB, gSorted, gList, gTuple, gInt, gAbs, dAdd, dInt, dInt0, dMul, dNeg, dCmp, dEq, dNe, dIsN, dNotN, dIn, dIx, dSl, oNone, oSome, dLst, dTup, frzAll, frzV, newL, rdL, rdM, rdT, rdD, truD, dTru, mAppend, mInsert, mExtend, mPopAt, mIndex, mCount, dIsI, cMod, cDiv, cPow, cMul, iRange1, iRange2, WB.iList, WB.iTup, iPtr, sTry, key, at6_0, at6_1, at6_2, at6_3, at6_4, at6_5]
  · rw [show ((18 : Nat) : Int) = 18 from rfl] at key; simp [sSeq, sIf, sNil, sRet, sRetN, sSet, sExpr, sRaise, sBreak, sCont, sUnp, setAll, dVar, dC, dOp, dT, dB, dChain, dChain3, dAnd, dOr, dNot, dIf, dAndV, dOrV, dNotV, dCB, dCons, dNil, dCall, dMtd, gLen, gMax, gMin, gSum, gAllB, gAnyB, gSorted, gList, gTuple, gInt, gAbs, dAdd, dInt, dInt0, dMul, dNeg, dCmp, dEq, dNe, dIsN, dNotN, dIn, dIx, dSl, oNone, oSome, dLst, dTup, frzAll, frzV, newL, rdL, rdM, rdT, rdD, truD, dTru, mAppend, mInsert, mExtend, mPopAt, mIndex, mCount, dIsI, cMod, cDiv, cPow, cMul, iRange1, iRange2, WB.iList, WB.iTup, iPtr, sTry, key, at6_0, at6_1, at6_2, at6_3, at6_4, at6_5]
  · rw [show ((19 : Nat) : Int) = 19 from rfl] at key; simp [sSeq, sIf, sNil, sRet, sRetN, sSet, sExpr, sRaise, sBreak, sCont, sUnp, setAll, dVar, dC, dOp, dT, dB, dChain, dChain3, dAnd, dOr, dNot, dIf, dAndV, dOrV, dNotV, dCB, dCons, dNil, dCall, dMtd, gLen, gMax, gMin, gSum, gAllB, gAnyB, gSorted, gList, gTuple, gInt, gAbs, dAdd, dInt, dInt0, dMul, dNeg, dCmp, dEq, dNe, dIsN, dNotN, dIn, dIx, dSl, oNone, oSome, dLst, dTup, frzAll, frzV, newL, rdL, rdM, rdT, rdD, truD, dTru, mAppend, mInsert, mExtend, mPopAt, mIndex, mCount, dIsI, cMod, cDiv, cPow, cMul, iRange1, iRange2, WB.iList, WB.iTup, iPtr, sTry, key, at6_0, at6_1, at6_2, at6_3, at6_4, at6_5]
theorem told_place (n : Int) (hn : n = -1 ∨ n = 9) (row fact : PyData) (st : List Cell) : m__law_told [.dat (.int 5), .dat (six a b (fs.map fcD) row fact n)] st = .ok (.dat (refW "stretch")) st := by
  have e := look_told_eq a b fs st (by omega)
  rw [if_pos h, if_pos ht] at e
  have ha : a ≤ 8 := by
    unfold szB at h
    simp only [Bool.and_eq_true, decide_eq_true_eq] at h
    omega
  refine told_rs 5 1 "stretch" (by simp) _ st ?_
  unfold LF at e
  generalize fs.map fcD = ds at e ⊢
  unfold m__law_one fnD b__law_one m_may fnD b_may
  rcases hn with rfl | rfl
  · simp [sSeq, sIf, sNil, sRet, sRetN, sSet, sExpr, sRaise, sBreak, sCont, sUnp, setAll, dVar, dC, dOp, dT, dB, dChain, dChain3, dAnd, dOr, dNot, dIf, dAndV, dOrV, dNotV, dCB, dCons, dNil, dCall, dMtd, gLen, gMax, gMin, gSum, gAllB, gAnyB, gSorted, gList, gTuple, gInt, gAbs, dAdd, dInt, dInt0, dMul, dNeg, dCmp, dEq, dNe, dIsN, dNotN, dIn, dIx, dSl, oNone, oSome, dLst, dTup, frzAll, frzV, newL, rdL, rdM, rdT, rdD, truD, dTru, mAppend, mInsert, mExtend, mPopAt, mIndex, mCount, dIsI, cMod, cDiv, cPow, cMul, iRange1, iRange2, WB.iList, WB.iTup, iPtr, sTry, e, at6_0, at6_1, at6_2, at6_3, at6_4, at6_5]
  · have h9 : ¬ (9 < a) := by omega
    simp [sSeq, sIf, sNil, sRet, sRetN, sSet, sExpr, sRaise, sBreak, sCont, sUnp, setAll, dVar, dC, dOp, dT, dB, dChain, dChain3, dAnd, dOr, dNot, dIf, dAndV, dOrV, dNotV, dCB, dCons, dNil, dCall, dMtd, gLen, gMax, gMin, gSum, gAllB, gAnyB, gSorted, gList, gTuple, gInt, gAbs, dAdd, dInt, dInt0, dMul, dNeg, dCmp, dEq, dNe, dIsN, dNotN, dIn, dIx, dSl, oNone, oSome, dLst, dTup, frzAll, frzV, newL, rdL, rdM, rdT, rdD, truD, dTru, mAppend, mInsert, mExtend, mPopAt, mIndex, mCount, dIsI, cMod, cDiv, cPow, cMul, iRange1, iRange2, WB.iList, WB.iTup, iPtr, sTry, e, at6_0, at6_1, at6_2, at6_3, at6_4, at6_5, h9]
end
end K91

set_option maxRecDepth 100000
set_option maxHeartbeats 4000000
namespace K91
open PySem PySem.Spec PyProof.Rows WB PG
open L2 (atI ixN atI_nat)
theorem not_ok {size most : Int} {f : Fc} (h : ¬ OkF size most f) : okF size most f = false := by
  cases e : okF size most f with
  | false => rfl
  | true => exact absurd (okF_iff.mp e) h
theorem most_ne : ¬ (("most" : Str) = "greatest" ∨ ("most" : Str) = "least") := by decide +kernel
theorem fact1 {size most : Int} (hs : 1 ≤ size) {x : PyData} (h : x ∈ [PyData.tuple [.str "greatest", .int 0, .int size, .int 0], .tuple [.str "least", .int (-1), .int 0, .int 0], .tuple [.str "most", .int 0, .int 0, .int 0]]) : ∃ o, x = fcD o ∧ okF size most o = false := by
  simp only [List.mem_cons, List.mem_nil_iff, or_false] at h
  rcases h with rfl | rfl | rfl
  · exact ⟨⟨"greatest", 0, size, 0⟩, rfl, not_ok fun o => by have := o.s; dsimp only at this; omega⟩
  · exact ⟨⟨"least", -1, 0, 0⟩, rfl, not_ok fun o => by have := o.a; dsimp only at this; omega⟩
  · exact ⟨⟨"most", 0, 0, 0⟩, rfl, not_ok fun o => most_ne o.w⟩
theorem fact2 {size most : Int} {f : Fc} (hf : okF size most f = false) {x : PyData} (h : x ∈ [fcD f, .tuple [.str "least", .int 0, .int 0, .int (most + 1)], .tuple [.str "least", .int 0, .int 0, .int (-1)]]) : ∃ o, x = fcD o ∧ okF size most o = false := by
  simp only [List.mem_cons, List.mem_nil_iff, or_false] at h
  rcases h with rfl | rfl | rfl
  · exact ⟨f, rfl, hf⟩
  · exact ⟨⟨"least", 0, 0, most + 1⟩, rfl, not_ok fun o => by have := o.m; dsimp only at this; omega⟩
  · exact ⟨⟨"least", 0, 0, -1⟩, rfl, not_ok fun o => by have := o.v; dsimp only at this; omega⟩
theorem sizes_bad {size most : Int} {x : PyData} (h : x ∈ [PyData.tuple [.int 0, .int most], .tuple [.int 9, .int most], .tuple [.int size, .int (-1)], .tuple [.int size, .int 10], .tuple [.int (-1), .int 10]]) : ∃ a b : Int, x = .tuple [.int a, .int b] ∧ szB a b = false := by
  simp only [List.mem_cons, List.mem_nil_iff, or_false] at h
  rcases h with rfl | rfl | rfl | rfl | rfl
  · exact ⟨_, _, rfl, by unfold szB; simp⟩
  · exact ⟨_, _, rfl, by unfold szB; simp⟩
  · exact ⟨_, _, rfl, by unfold szB; simp⟩
  · exact ⟨_, _, rfl, by unfold szB; simp⟩
  · exact ⟨_, _, rfl, by unfold szB; simp⟩
theorem told_bad {size most : Int} {f g : Fc} (hf : okF size most f = false) {x : PyData} (h : x ∈ [PyData.list [fcD f], .list [fcD g, fcD f], .list [fcD f, fcD g], .list [fcD g, fcD g, fcD g, fcD g, fcD g, fcD g, fcD g]]) : ∃ ts : List Fc, x = LF ts ∧ tdB size most ts = false ∧ ts.length ≤ 1000000 := by
  simp only [List.mem_cons, List.mem_nil_iff, or_false] at h
  rcases h with rfl | rfl | rfl | rfl
  · exact ⟨[f], rfl, by unfold tdB; simp [hf], by simp⟩
  · exact ⟨[g, f], rfl, by unfold tdB; simp [hf], by simp⟩
  · exact ⟨[f, g], rfl, by unfold tdB; simp [hf], by simp⟩
  · exact ⟨[g, g, g, g, g, g, g], rfl, by unfold tdB; simp, by simp⟩
theorem row_bad {x : PyData} (h : x ∈ [PyData.list [], .list [.int 10], .list [.int (-1)], .list [.int 0, .int 0, .int 0, .int 0, .int 0, .int 0, .int 0, .int 0, .int 0]]) : ∃ rs : List Int, x = LI rs ∧ rowB rs = false ∧ rs.length ≤ 1000 := by
  simp only [List.mem_cons, List.mem_nil_iff, or_false] at h
  rcases h with rfl | rfl | rfl | rfl
  · exact ⟨[], rfl, by decide +kernel, by simp⟩
  · exact ⟨[10], rfl, by decide +kernel, by simp⟩
  · exact ⟨[-1], rfl, by decide +kernel, by simp⟩
  · exact ⟨[0, 0, 0, 0, 0, 0, 0, 0, 0], rfl, by decide +kernel, by simp⟩
theorem num_bad {x : PyData} (h : x ∈ [PyData.int (-1), .int 9]) : ∃ n : Int, x = .int n ∧ (n = -1 ∨ n = 9) := by
  simp only [List.mem_cons, List.mem_nil_iff, or_false] at h
  rcases h with rfl | rfl
  · exact ⟨_, rfl, .inl rfl⟩
  · exact ⟨_, rfl, .inr rfl⟩
theorem sh_ref (w : Str) (h : w ∈ [("row" : Str), "size", "told", "stretch"]) : SeqAt.shaped (refW w) = true ∧ SeqAt.shaped (.list [refW w, refW w]) = true ∧ SeqAt.shaped (.list [refW w, refW w, refW w, refW w]) = true := by
  simp only [List.mem_cons, List.mem_nil_iff, or_false] at h
  rcases h with rfl | rfl | rfl | rfl <;> exact ⟨by decide +kernel, by decide +kernel, by decide +kernel⟩
theorem law_true (ns : List Int) (hn : ns.length ≤ 63) : ∃ st, m_law [.scr ns] [] = .ok (.dat (.bool true)) st := by
  obtain ⟨v, hv, v0, v8⟩ := draw_ok ns 0 0 8 [tw 0] (by decide) rfl (by decide)
  have hv' : m__law_draw [.scr ns, .ptr 0, .dat (.int 8)] [tw 0] = .ok (.dat (.int v)) [tw 1] := hv
  obtain ⟨most, hm, m0, m9⟩ := draw_ok ns 0 1 10 [tw 1] (by decide) rfl (by decide)
  have hm' : m__law_draw [.scr ns, .ptr 0, .dat (.int 10)] [tw 1] = .ok (.dat (.int most)) [tw 2] := hm
  generalize hsz : 1 + v = size
  have s1 : 1 ≤ size := by omega
  have s8 : size ≤ 8 := by omega
  have hS : szB size most = true := by
    unfold szB
    simp only [Bool.and_eq_true, decide_eq_true_eq]
    omega
  obtain ⟨x, hx, p1⟩ := pick_ok ns 0 2 (_ :: _) [tw 2] (List.cons_ne_nil _ _) rfl (by decide)
  obtain ⟨a, b, rfl, hab⟩ := sizes_bad (size := size) (most := most) hx
  obtain ⟨x, hx, p2⟩ := pick_ok ns 0 3 (_ :: _) [tw 3] (List.cons_ne_nil _ _) rfl (by decide)
  obtain ⟨f1, rfl, hf1⟩ := fact1 (size := size) (most := most) s1 hx
  obtain ⟨x, hx, p3⟩ := pick_ok ns 0 4 (_ :: _) [tw 4] (List.cons_ne_nil _ _) rfl (by decide)
  obtain ⟨f, rfl, hf⟩ := fact2 hf1 hx
  generalize hg : (⟨"least", 0, size - 1, 0⟩ : Fc) = g
  have hgD : PyData.tuple [.str "least", .int 0, .int (size - 1), .int 0] = fcD g := by rw [← hg]; rfl
  have hgo : okF size most g = true := okF_iff.mpr (by rw [← hg]; exact ⟨.inr rfl, by dsimp only; omega, by dsimp only; omega, by dsimp only; omega, by dsimp only; omega, by dsimp only; omega⟩)
  have hG : tdB size most [g] = true := by unfold tdB; simp [hgo]
  obtain ⟨x, hx, p4⟩ := pick_ok ns 0 5 (_ :: _) [tw 5] (List.cons_ne_nil _ _) rfl (by decide)
  obtain ⟨ts, rfl, hT, hTl⟩ := told_bad (size := size) (most := most) (f := f) (g := g) hf hx
  obtain ⟨x, hx, p5⟩ := pick_ok ns 0 6 (_ :: _) [tw 6] (List.cons_ne_nil _ _) rfl (by decide)
  obtain ⟨rs, rfl, hR, hRl⟩ := row_bad hx
  obtain ⟨x, hx, p6⟩ := pick_ok ns 0 7 (_ :: _) [tw 7] (List.cons_ne_nil _ _) rfl (by decide)
  obtain ⟨n, rfl, hN⟩ := num_bad hx
  clear hx
  have p1' : m__law_pick [.scr ns, .ptr 0, .dat (.list [PyData.tuple [.int 0, .int most], .tuple [.int 9, .int most], .tuple [.int size, .int (-1)], .tuple [.int size, .int 10], .tuple [.int (-1), .int 10]])] [tw 2] = .ok (.dat (.tuple [.int a, .int b])) [tw 3] := p1
  have p2' : m__law_pick [.scr ns, .ptr 0, .dat (.list [PyData.tuple [.str "greatest", .int 0, .int size, .int 0], .tuple [.str "least", .int (-1), .int 0, .int 0], .tuple [.str "most", .int 0, .int 0, .int 0]])] [tw 3] = .ok (.dat (fcD f1)) [tw 4] := p2
  have p3' : m__law_pick [.scr ns, .ptr 0, .dat (.list [fcD f1, .tuple [.str "least", .int 0, .int 0, .int (most + 1)], .tuple [.str "least", .int 0, .int 0, .int (-1)]])] [tw 4] = .ok (.dat (fcD f)) [tw 5] := p3
  have p4' : m__law_pick [.scr ns, .ptr 0, .dat (.list [PyData.list [fcD f], .list [fcD g, fcD f], .list [fcD f, fcD g], .list [fcD g, fcD g, fcD g, fcD g, fcD g, fcD g, fcD g]])] [tw 5] = .ok (.dat (LF ts)) [tw 6] := p4
  have p5' : m__law_pick [.scr ns, .ptr 0, .dat (.list [PyData.list [], .list [.int 10], .list [.int (-1)], .list [.int 0, .int 0, .int 0, .int 0, .int 0, .int 0, .int 0, .int 0, .int 0]])] [tw 6] = .ok (.dat (LI rs)) [tw 7] := p5
  have p6' : m__law_pick [.scr ns, .ptr 0, .dat (.list [PyData.int (-1), .int 9])] [tw 7] = .ok (.dat (.int n)) [tw 8] := p6
  clear p1 p2 p3 p4 p5 p6 hv hm
  have t1 := fun kd hk => told_size kd hk hab ts hTl (LI rs) (fcD f) n [tw 8]
  have t2 := fun kd hk => told_told kd hk hS ts hT hTl (LI rs) (fcD f) n [tw 8]
  have t3 := fun st => told_row0 hS [g] hG (by simp) rs hR hRl (fcD f) n st
  have t4 := fun st => told_row3 hS [g] hG (by simp) rs hR hRl (fcD f) n st
  have t5 := fun kd hk st => told_fact hS [g] hG (by simp) kd hk f hf (LI rs) n st
  have t6 := fun st => told_place hS [g] hG (by simp) n hN (LI rs) (fcD f) st
  have t50 : ∀ st, m__law_told [.dat (.int 16), .dat (six size most ([g].map fcD) (LI rs) (fcD f) n)] st = .ok (.dat (refW "told")) st := t5 16 (by simp)
  have t51 : ∀ st, m__law_told [.dat (.int 17), .dat (six size most ([g].map fcD) (LI rs) (fcD f) n)] st = .ok (.dat (refW "told")) st := t5 17 (by simp)
  have t52 : ∀ st, m__law_told [.dat (.int 18), .dat (six size most ([g].map fcD) (LI rs) (fcD f) n)] st = .ok (.dat (refW "told")) st := t5 18 (by simp)
  have t53 : ∀ st, m__law_told [.dat (.int 19), .dat (six size most ([g].map fcD) (LI rs) (fcD f) n)] st = .ok (.dat (refW "told")) st := t5 19 (by simp)
  obtain ⟨r1, _, _⟩ := sh_ref "size" (by simp)
  obtain ⟨r2, _, r22⟩ := sh_ref "told" (by simp)
  obtain ⟨r3, r32, _⟩ := sh_ref "row" (by simp)
  obtain ⟨r4, _, _⟩ := sh_ref "stretch" (by simp)
  have z1 := eqv_self r1
  have z2 := eqv_self r2
  have z22 := eqv_self r22
  have z32 := eqv_self r32
  have z4 := eqv_self r4
  simp only [List.map_cons, List.map_nil] at t3 t4 t50 t51 t52 t53 t6
  unfold LF at t1 t2 p4'
  have hR21 : InRg 21 := inRg_small (by decide) (by decide)
  have q0 : atI [PyData.int a, PyData.int b] 0 = some (.int a) := rfl
  have q1 : atI [PyData.int a, PyData.int b] 1 = some (.int b) := rfl
  unfold six at t1 t2 t3 t4 t50 t51 t52 t53 t6
  generalize fcD f = fD at *
  generalize fcD g = gD at *
  generalize fcD f1 = f1D at *
  generalize ts.map fcD = tD at *
  generalize LI rs = rD at *
  have loop : ∃ y, fo1_law [.scr ns, .ptr 0, .dat (.int size), .dat (.int most), .dat (.tuple [.int a, .int b]), .dat fD, .dat gD, .dat (.list tD), .dat rD, .dat (.int n), .un, .un] [tw 8] = .nx [.scr ns, .ptr 0, .dat (.int size), .dat (.int most), .dat (.tuple [.int a, .int b]), .dat fD, .dat gD, .dat (.list tD), .dat rD, .dat (.int n), y, .un] [tw 8] := by
    obtain ⟨δ', st', e2, y, e3, e4⟩ := forL_inv (g := tgN 10) (f := fo1_law_b) (fun i δ s => ∃ y, δ = [.scr ns, .ptr 0, .dat (.int size), .dat (.int most), .dat (.tuple [.int a, .int b]), .dat fD, .dat gD, .dat (.list tD), .dat rD, .dat (.int n), y, .un] ∧ s = [tw 8]) (rngD 0 21) 0
      [.scr ns, .ptr 0, .dat (.int size), .dat (.int most), .dat (.tuple [.int a, .int b]), .dat fD, .dat gD, .dat (.list tD), .dat rD, .dat (.int n), .un, .un] [tw 8] (fun i d e δ s hI => by
        obtain ⟨y, rfl, rfl⟩ := hI
        obtain ⟨hi, rfl⟩ := rngD_get e
        have u1 := t1 i hi
        have u2 := t2 i hi
        refine ⟨_, _, _, rfl, ?_, .dat (.int (0 + (i : Nat))), rfl, rfl⟩
        rw [Int.zero_add]
        unfold refW at u1 u2 r1 r2 z1 z2
        unfold fo1_law_b
        simp [sSeq, sIf, sNil, sRet, sRetN, sSet, sExpr, sRaise, sBreak, sCont, sUnp, setAll, dVar, dC, dOp, dT, dB, dChain, dChain3, dAnd, dOr, dNot, dIf, dAndV, dOrV, dNotV, dCB, dCons, dNil, dCall, dMtd, gLen, gMax, gMin, gSum, gAllB, gAnyB, gSorted, gList, gTuple, gInt, gAbs, dAdd, dInt, dInt0, dMul, dNeg, dCmp, dEq, dNe, dIsN, dNotN, dIn, dIx, dSl, oNone, oSome, dLst, dTup, frzAll, frzV, newL, rdL, rdM, rdT, rdD, truD, dTru, mAppend, mInsert, mExtend, mPopAt, mIndex, mCount, dIsI, cMod, cDiv, cPow, cMul, iRange1, iRange2, WB.iList, WB.iTup, iPtr, sTry, u1, u2, r1, r2, z1, z2, q0, q1]) ⟨.un, rfl, rfl⟩
    refine ⟨y, ?_⟩
    unfold fo1_law sFor
    have hi : iRange1 (dCons (dC (.int 21)) dNil) [.scr ns, .ptr 0, .dat (.int size), .dat (.int most), .dat (.tuple [.int a, .int b]), .dat fD, .dat gD, .dat (.list tD), .dat rD, .dat (.int n), .un, .un] [tw 8] = .ok (rngD 0 21) [tw 8] := by
      simp [sSeq, sIf, sNil, sRet, sRetN, sSet, sExpr, sRaise, sBreak, sCont, sUnp, setAll, dVar, dC, dOp, dT, dB, dChain, dChain3, dAnd, dOr, dNot, dIf, dAndV, dOrV, dNotV, dCB, dCons, dNil, dCall, dMtd, gLen, gMax, gMin, gSum, gAllB, gAnyB, gSorted, gList, gTuple, gInt, gAbs, dAdd, dInt, dInt0, dMul, dNeg, dCmp, dEq, dNe, dIsN, dNotN, dIn, dIx, dSl, oNone, oSome, dLst, dTup, frzAll, frzV, newL, rdL, rdM, rdT, rdD, truD, dTru, mAppend, mInsert, mExtend, mPopAt, mIndex, mCount, dIsI, cMod, cDiv, cPow, cMul, iRange1, iRange2, WB.iList, WB.iTup, iPtr, sTry, hR21]
    rw [hi, sr_ok, e2, e3, e4]
  obtain ⟨y, loop⟩ := loop
  have hl2 : ∀ st : List Cell, st = [tw 8] → lc2_law [.scr ns, .ptr 0, .dat (.int size), .dat (.int most), .dat (.tuple [.int a, .int b]), .dat fD, .dat gD, .dat (.list tD), .dat rD, .dat (.int n), y, .dat (.list [.int size, .int most, .list [gD], rD, fD, .int n])] st = .ok (.dat (.list [refW "row", refW "row"])) st := by
    rintro st rfl
    unfold lc2_law lc2_law_e dLc
    simp [sSeq, sIf, sNil, sRet, sRetN, sSet, sExpr, sRaise, sBreak, sCont, sUnp, setAll, dVar, dC, dOp, dT, dB, dChain, dChain3, dAnd, dOr, dNot, dIf, dAndV, dOrV, dNotV, dCB, dCons, dNil, dCall, dMtd, gLen, gMax, gMin, gSum, gAllB, gAnyB, gSorted, gList, gTuple, gInt, gAbs, dAdd, dInt, dInt0, dMul, dNeg, dCmp, dEq, dNe, dIsN, dNotN, dIn, dIx, dSl, oNone, oSome, dLst, dTup, frzAll, frzV, newL, rdL, rdM, rdT, rdD, truD, dTru, mAppend, mInsert, mExtend, mPopAt, mIndex, mCount, dIsI, cMod, cDiv, cPow, cMul, iRange1, iRange2, WB.iList, WB.iTup, iPtr, sTry, t3, t4, lcL, tgN, wipeD, tYesF]
  have hl3 : ∀ st : List Cell, st = [tw 8] → lc3_law [.scr ns, .ptr 0, .dat (.int size), .dat (.int most), .dat (.tuple [.int a, .int b]), .dat fD, .dat gD, .dat (.list tD), .dat rD, .dat (.int n), y, .dat (.list [.int size, .int most, .list [gD], rD, fD, .int n])] st = .ok (.dat (.list [refW "told", refW "told", refW "told", refW "told"])) st := by
    rintro st rfl
    unfold lc3_law lc3_law_e dLc
    simp [sSeq, sIf, sNil, sRet, sRetN, sSet, sExpr, sRaise, sBreak, sCont, sUnp, setAll, dVar, dC, dOp, dT, dB, dChain, dChain3, dAnd, dOr, dNot, dIf, dAndV, dOrV, dNotV, dCB, dCons, dNil, dCall, dMtd, gLen, gMax, gMin, gSum, gAllB, gAnyB, gSorted, gList, gTuple, gInt, gAbs, dAdd, dInt, dInt0, dMul, dNeg, dCmp, dEq, dNe, dIsN, dNotN, dIn, dIx, dSl, oNone, oSome, dLst, dTup, frzAll, frzV, newL, rdL, rdM, rdT, rdD, truD, dTru, mAppend, mInsert, mExtend, mPopAt, mIndex, mCount, dIsI, cMod, cDiv, cPow, cMul, iRange1, iRange2, WB.iList, WB.iTup, iPtr, sTry, t50, t51, t52, t53, lcL, tgN, wipeD, tYesF]
  have hl2' := hl2 _ rfl
  have hl3' := hl3 _ rfl
  have h0 : Cell.mu [] = tw 0 := rfl
  have key : b_law [.scr ns, .un, .un, .un, .un, .un, .un, .un, .un, .un, .un, .un] [] = .rt (.dat (.bool true)) [tw 8] := by
    unfold b_law
    refine (seq_nx (δ' := ?d1_) (st' := ?s1_) ?h1_).trans ?k1_
    case h1_ => (conv => lhs; simp [sSeq, sIf, sNil, sRet, sRetN, sSet, sExpr, sRaise, sBreak, sCont, sUnp, setAll, dVar, dC, dOp, dT, dB, dChain, dChain3, dAnd, dOr, dNot, dIf, dAndV, dOrV, dNotV, dCB, dCons, dNil, dCall, dMtd, gLen, gMax, gMin, gSum, gAllB, gAnyB, gSorted, gList, gTuple, gInt, gAbs, dAdd, dInt, dInt0, dMul, dNeg, dCmp, dEq, dNe, dIsN, dNotN, dIn, dIx, dSl, oNone, oSome, dLst, dTup, frzAll, frzV, newL, rdL, rdM, rdT, rdD, truD, dTru, mAppend, mInsert, mExtend, mPopAt, mIndex, mCount, dIsI, cMod, cDiv, cPow, cMul, iRange1, iRange2, WB.iList, WB.iTup, iPtr, sTry, h0]); (try rfl)
    refine (seq_nx (δ' := ?d2_) (st' := ?s2_) ?h2_).trans ?k2_
    case h2_ => (conv => lhs; simp [sSeq, sIf, sNil, sRet, sRetN, sSet, sExpr, sRaise, sBreak, sCont, sUnp, setAll, dVar, dC, dOp, dT, dB, dChain, dChain3, dAnd, dOr, dNot, dIf, dAndV, dOrV, dNotV, dCB, dCons, dNil, dCall, dMtd, gLen, gMax, gMin, gSum, gAllB, gAnyB, gSorted, gList, gTuple, gInt, gAbs, dAdd, dInt, dInt0, dMul, dNeg, dCmp, dEq, dNe, dIsN, dNotN, dIn, dIx, dSl, oNone, oSome, dLst, dTup, frzAll, frzV, newL, rdL, rdM, rdT, rdD, truD, dTru, mAppend, mInsert, mExtend, mPopAt, mIndex, mCount, dIsI, cMod, cDiv, cPow, cMul, iRange1, iRange2, WB.iList, WB.iTup, iPtr, sTry, hv', hsz]); (try rfl)
    refine (seq_nx (δ' := ?d3_) (st' := ?s3_) ?h3_).trans ?k3_
    case h3_ => (conv => lhs; simp [sSeq, sIf, sNil, sRet, sRetN, sSet, sExpr, sRaise, sBreak, sCont, sUnp, setAll, dVar, dC, dOp, dT, dB, dChain, dChain3, dAnd, dOr, dNot, dIf, dAndV, dOrV, dNotV, dCB, dCons, dNil, dCall, dMtd, gLen, gMax, gMin, gSum, gAllB, gAnyB, gSorted, gList, gTuple, gInt, gAbs, dAdd, dInt, dInt0, dMul, dNeg, dCmp, dEq, dNe, dIsN, dNotN, dIn, dIx, dSl, oNone, oSome, dLst, dTup, frzAll, frzV, newL, rdL, rdM, rdT, rdD, truD, dTru, mAppend, mInsert, mExtend, mPopAt, mIndex, mCount, dIsI, cMod, cDiv, cPow, cMul, iRange1, iRange2, WB.iList, WB.iTup, iPtr, sTry, hm']); (try rfl)
    refine (seq_nx (δ' := ?d4_) (st' := ?s4_) ?h4_).trans ?k4_
    case h4_ => (conv => lhs; simp [sSeq, sIf, sNil, sRet, sRetN, sSet, sExpr, sRaise, sBreak, sCont, sUnp, setAll, dVar, dC, dOp, dT, dB, dChain, dChain3, dAnd, dOr, dNot, dIf, dAndV, dOrV, dNotV, dCB, dCons, dNil, dCall, dMtd, gLen, gMax, gMin, gSum, gAllB, gAnyB, gSorted, gList, gTuple, gInt, gAbs, dAdd, dInt, dInt0, dMul, dNeg, dCmp, dEq, dNe, dIsN, dNotN, dIn, dIx, dSl, oNone, oSome, dLst, dTup, frzAll, frzV, newL, rdL, rdM, rdT, rdD, truD, dTru, mAppend, mInsert, mExtend, mPopAt, mIndex, mCount, dIsI, cMod, cDiv, cPow, cMul, iRange1, iRange2, WB.iList, WB.iTup, iPtr, sTry, p1']); (try rfl)
    refine (seq_nx (δ' := ?d5_) (st' := ?s5_) ?h5_).trans ?k5_
    case h5_ => (conv => lhs; simp [sSeq, sIf, sNil, sRet, sRetN, sSet, sExpr, sRaise, sBreak, sCont, sUnp, setAll, dVar, dC, dOp, dT, dB, dChain, dChain3, dAnd, dOr, dNot, dIf, dAndV, dOrV, dNotV, dCB, dCons, dNil, dCall, dMtd, gLen, gMax, gMin, gSum, gAllB, gAnyB, gSorted, gList, gTuple, gInt, gAbs, dAdd, dInt, dInt0, dMul, dNeg, dCmp, dEq, dNe, dIsN, dNotN, dIn, dIx, dSl, oNone, oSome, dLst, dTup, frzAll, frzV, newL, rdL, rdM, rdT, rdD, truD, dTru, mAppend, mInsert, mExtend, mPopAt, mIndex, mCount, dIsI, cMod, cDiv, cPow, cMul, iRange1, iRange2, WB.iList, WB.iTup, iPtr, sTry, p2']); (try rfl)
    refine (seq_nx (δ' := ?d6_) (st' := ?s6_) ?h6_).trans ?k6_
    case h6_ => (conv => lhs; simp [sSeq, sIf, sNil, sRet, sRetN, sSet, sExpr, sRaise, sBreak, sCont, sUnp, setAll, dVar, dC, dOp, dT, dB, dChain, dChain3, dAnd, dOr, dNot, dIf, dAndV, dOrV, dNotV, dCB, dCons, dNil, dCall, dMtd, gLen, gMax, gMin, gSum, gAllB, gAnyB, gSorted, gList, gTuple, gInt, gAbs, dAdd, dInt, dInt0, dMul, dNeg, dCmp, dEq, dNe, dIsN, dNotN, dIn, dIx, dSl, oNone, oSome, dLst, dTup, frzAll, frzV, newL, rdL, rdM, rdT, rdD, truD, dTru, mAppend, mInsert, mExtend, mPopAt, mIndex, mCount, dIsI, cMod, cDiv, cPow, cMul, iRange1, iRange2, WB.iList, WB.iTup, iPtr, sTry, p3']); (try rfl)
    refine (seq_nx (δ' := ?d7_) (st' := ?s7_) ?h7_).trans ?k7_
    case h7_ => (conv => lhs; simp [sSeq, sIf, sNil, sRet, sRetN, sSet, sExpr, sRaise, sBreak, sCont, sUnp, setAll, dVar, dC, dOp, dT, dB, dChain, dChain3, dAnd, dOr, dNot, dIf, dAndV, dOrV, dNotV, dCB, dCons, dNil, dCall, dMtd, gLen, gMax, gMin, gSum, gAllB, gAnyB, gSorted, gList, gTuple, gInt, gAbs, dAdd, dInt, dInt0, dMul, dNeg, dCmp, dEq, dNe, dIsN, dNotN, dIn, dIx, dSl, oNone, oSome, dLst, dTup, frzAll, frzV, newL, rdL, rdM, rdT, rdD, truD, dTru, mAppend, mInsert, mExtend, mPopAt, mIndex, mCount, dIsI, cMod, cDiv, cPow, cMul, iRange1, iRange2, WB.iList, WB.iTup, iPtr, sTry, hgD]); (try rfl)
    refine (seq_nx (δ' := ?d8_) (st' := ?s8_) ?h8_).trans ?k8_
    case h8_ => (conv => lhs; simp [sSeq, sIf, sNil, sRet, sRetN, sSet, sExpr, sRaise, sBreak, sCont, sUnp, setAll, dVar, dC, dOp, dT, dB, dChain, dChain3, dAnd, dOr, dNot, dIf, dAndV, dOrV, dNotV, dCB, dCons, dNil, dCall, dMtd, gLen, gMax, gMin, gSum, gAllB, gAnyB, gSorted, gList, gTuple, gInt, gAbs, dAdd, dInt, dInt0, dMul, dNeg, dCmp, dEq, dNe, dIsN, dNotN, dIn, dIx, dSl, oNone, oSome, dLst, dTup, frzAll, frzV, newL, rdL, rdM, rdT, rdD, truD, dTru, mAppend, mInsert, mExtend, mPopAt, mIndex, mCount, dIsI, cMod, cDiv, cPow, cMul, iRange1, iRange2, WB.iList, WB.iTup, iPtr, sTry, p4', List.replicate]); (try rfl)
    refine (seq_nx (δ' := ?d9_) (st' := ?s9_) ?h9_).trans ?k9_
    case h9_ => (conv => lhs; simp [sSeq, sIf, sNil, sRet, sRetN, sSet, sExpr, sRaise, sBreak, sCont, sUnp, setAll, dVar, dC, dOp, dT, dB, dChain, dChain3, dAnd, dOr, dNot, dIf, dAndV, dOrV, dNotV, dCB, dCons, dNil, dCall, dMtd, gLen, gMax, gMin, gSum, gAllB, gAnyB, gSorted, gList, gTuple, gInt, gAbs, dAdd, dInt, dInt0, dMul, dNeg, dCmp, dEq, dNe, dIsN, dNotN, dIn, dIx, dSl, oNone, oSome, dLst, dTup, frzAll, frzV, newL, rdL, rdM, rdT, rdD, truD, dTru, mAppend, mInsert, mExtend, mPopAt, mIndex, mCount, dIsI, cMod, cDiv, cPow, cMul, iRange1, iRange2, WB.iList, WB.iTup, iPtr, sTry, p5', List.replicate]); (try rfl)
    refine (seq_nx (δ' := ?d10_) (st' := ?s10_) ?h10_).trans ?k10_
    case h10_ => (conv => lhs; simp [sSeq, sIf, sNil, sRet, sRetN, sSet, sExpr, sRaise, sBreak, sCont, sUnp, setAll, dVar, dC, dOp, dT, dB, dChain, dChain3, dAnd, dOr, dNot, dIf, dAndV, dOrV, dNotV, dCB, dCons, dNil, dCall, dMtd, gLen, gMax, gMin, gSum, gAllB, gAnyB, gSorted, gList, gTuple, gInt, gAbs, dAdd, dInt, dInt0, dMul, dNeg, dCmp, dEq, dNe, dIsN, dNotN, dIn, dIx, dSl, oNone, oSome, dLst, dTup, frzAll, frzV, newL, rdL, rdM, rdT, rdD, truD, dTru, mAppend, mInsert, mExtend, mPopAt, mIndex, mCount, dIsI, cMod, cDiv, cPow, cMul, iRange1, iRange2, WB.iList, WB.iTup, iPtr, sTry, p6']); (try rfl)
    refine (seq_nx (loop)).trans ?_
    refine (seq_nx (δ' := ?d11_) (st' := ?s11_) ?h11_).trans ?k11_
    case h11_ => (conv => lhs; simp [sSeq, sIf, sNil, sRet, sRetN, sSet, sExpr, sRaise, sBreak, sCont, sUnp, setAll, dVar, dC, dOp, dT, dB, dChain, dChain3, dAnd, dOr, dNot, dIf, dAndV, dOrV, dNotV, dCB, dCons, dNil, dCall, dMtd, gLen, gMax, gMin, gSum, gAllB, gAnyB, gSorted, gList, gTuple, gInt, gAbs, dAdd, dInt, dInt0, dMul, dNeg, dCmp, dEq, dNe, dIsN, dNotN, dIn, dIx, dSl, oNone, oSome, dLst, dTup, frzAll, frzV, newL, rdL, rdM, rdT, rdD, truD, dTru, mAppend, mInsert, mExtend, mPopAt, mIndex, mCount, dIsI, cMod, cDiv, cPow, cMul, iRange1, iRange2, WB.iList, WB.iTup, iPtr, sTry]); (try rfl)
    unfold refW at *
    refine (seq_nx (δ' := ?d12_) (st' := ?s12_) ?h12_).trans ?k12_
    case h12_ => (conv => lhs; simp [sSeq, sIf, sNil, sRet, sRetN, sSet, sExpr, sRaise, sBreak, sCont, sUnp, setAll, dVar, dC, dOp, dT, dB, dChain, dChain3, dAnd, dOr, dNot, dIf, dAndV, dOrV, dNotV, dCB, dCons, dNil, dCall, dMtd, gLen, gMax, gMin, gSum, gAllB, gAnyB, gSorted, gList, gTuple, gInt, gAbs, dAdd, dInt, dInt0, dMul, dNeg, dCmp, dEq, dNe, dIsN, dNotN, dIn, dIx, dSl, oNone, oSome, dLst, dTup, frzAll, frzV, newL, rdL, rdM, rdT, rdD, truD, dTru, mAppend, mInsert, mExtend, mPopAt, mIndex, mCount, dIsI, cMod, cDiv, cPow, cMul, iRange1, iRange2, WB.iList, WB.iTup, iPtr, sTry, hl2', r32, z32, List.replicate]); (try rfl)
    refine (seq_nx (δ' := ?d13_) (st' := ?s13_) ?h13_).trans ?k13_
    case h13_ => (conv => lhs; simp [sSeq, sIf, sNil, sRet, sRetN, sSet, sExpr, sRaise, sBreak, sCont, sUnp, setAll, dVar, dC, dOp, dT, dB, dChain, dChain3, dAnd, dOr, dNot, dIf, dAndV, dOrV, dNotV, dCB, dCons, dNil, dCall, dMtd, gLen, gMax, gMin, gSum, gAllB, gAnyB, gSorted, gList, gTuple, gInt, gAbs, dAdd, dInt, dInt0, dMul, dNeg, dCmp, dEq, dNe, dIsN, dNotN, dIn, dIx, dSl, oNone, oSome, dLst, dTup, frzAll, frzV, newL, rdL, rdM, rdT, rdD, truD, dTru, mAppend, mInsert, mExtend, mPopAt, mIndex, mCount, dIsI, cMod, cDiv, cPow, cMul, iRange1, iRange2, WB.iList, WB.iTup, iPtr, sTry, hl3', r22, z22, List.replicate]); (try rfl)
    simp [sSeq, sIf, sNil, sRet, sRetN, sSet, sExpr, sRaise, sBreak, sCont, sUnp, setAll, dVar, dC, dOp, dT, dB, dChain, dChain3, dAnd, dOr, dNot, dIf, dAndV, dOrV, dNotV, dCB, dCons, dNil, dCall, dMtd, gLen, gMax, gMin, gSum, gAllB, gAnyB, gSorted, gList, gTuple, gInt, gAbs, dAdd, dInt, dInt0, dMul, dNeg, dCmp, dEq, dNe, dIsN, dNotN, dIn, dIx, dSl, oNone, oSome, dLst, dTup, frzAll, frzV, newL, rdL, rdM, rdT, rdD, truD, dTru, mAppend, mInsert, mExtend, mPopAt, mIndex, mCount, dIsI, cMod, cDiv, cPow, cMul, iRange1, iRange2, WB.iList, WB.iTup, iPtr, sTry, t6, r4, z4]
  refine ⟨[], ?_⟩
  unfold m_law fnD
  show exitR 0 (b_law [.scr ns, .un, .un, .un, .un, .un, .un, .un, .un, .un, .un, .un] []) = _
  rw [key]
  rfl
end K91

set_option maxRecDepth 100000
set_option maxHeartbeats 4000000
namespace K91
open PySem PySem.Spec PyProof.Rows L2 WB PG
theorem all_mk {l : PySem.W.OpenLaw} {w : World} {K : PySem.W.Frag} {h : Heap} {mg : Str → Option Value} {fa f_look_sizes f_look_row f_is_fact f_look_told f_worth_of f_is_row_of f_broken f_bounds f_how_many f_row_at f_number_of f_may f_sure f_clash f_is_clash f_left_out f_least_cost f_mended f_first_row f_look_fact f_worths f_follows f_parting f_needless f_lessened f_are_alike f_first_apart f_written f__law_cell f__law_mix f__law_draw f__law_pick f__law_refusal f__law_one_b f__law_one f__law_told f_law C_BackError C_BadRow C_BadStretch C_BadSize C_BadTold C_NoRow C_BadNumber C_BadText : Addr} (X : K.In h) (G : h.Ns mainGlobals mg) (hfa : mg "law" = some (.ref fa))
    {od_look_sizes an_look_sizes : Option Addr} {sl_look_sizes : Array (Option Value)} {oc_look_sizes kV_look_sizes dc_look_sizes pm_look_sizes cd_look_sizes ct_look_sizes : Value} (a_look_sizes : PySem.W.nsIn K mainGlobals "look_sizes" = some (some (.ref f_look_sizes))) (l_look_sizes : K.lookup f_look_sizes = some ⟨oc_look_sizes, od_look_sizes, .func (PySem.W.fnOf "look_sizes" "look_sizes" (defArgs s_look_sizes) (defBody s_look_sizes) (defScope s_look_sizes) .none kV_look_sizes dc_look_sizes pm_look_sizes an_look_sizes cd_look_sizes ct_look_sizes), sl_look_sizes⟩) (c_look_sizes : PySem.W.codeIn K cd_look_sizes "look_sizes" = true) (k_look_sizes : PySem.W.keepIn K (.ref f_look_sizes) = true)
    {od_look_row an_look_row : Option Addr} {sl_look_row : Array (Option Value)} {oc_look_row kV_look_row dc_look_row pm_look_row cd_look_row ct_look_row : Value} (a_look_row : PySem.W.nsIn K mainGlobals "look_row" = some (some (.ref f_look_row))) (l_look_row : K.lookup f_look_row = some ⟨oc_look_row, od_look_row, .func (PySem.W.fnOf "look_row" "look_row" (defArgs s_look_row) (defBody s_look_row) (defScope s_look_row) .none kV_look_row dc_look_row pm_look_row an_look_row cd_look_row ct_look_row), sl_look_row⟩) (c_look_row : PySem.W.codeIn K cd_look_row "look_row" = true) (k_look_row : PySem.W.keepIn K (.ref f_look_row) = true)
    {od_is_fact an_is_fact : Option Addr} {sl_is_fact : Array (Option Value)} {oc_is_fact kV_is_fact dc_is_fact pm_is_fact cd_is_fact ct_is_fact : Value} (a_is_fact : PySem.W.nsIn K mainGlobals "is_fact" = some (some (.ref f_is_fact))) (l_is_fact : K.lookup f_is_fact = some ⟨oc_is_fact, od_is_fact, .func (PySem.W.fnOf "is_fact" "is_fact" (defArgs s_is_fact) (defBody s_is_fact) (defScope s_is_fact) .none kV_is_fact dc_is_fact pm_is_fact an_is_fact cd_is_fact ct_is_fact), sl_is_fact⟩) (c_is_fact : PySem.W.codeIn K cd_is_fact "is_fact" = true) (k_is_fact : PySem.W.keepIn K (.ref f_is_fact) = true)
    {od_look_told an_look_told : Option Addr} {sl_look_told : Array (Option Value)} {oc_look_told kV_look_told dc_look_told pm_look_told cd_look_told ct_look_told : Value} (a_look_told : PySem.W.nsIn K mainGlobals "look_told" = some (some (.ref f_look_told))) (l_look_told : K.lookup f_look_told = some ⟨oc_look_told, od_look_told, .func (PySem.W.fnOf "look_told" "look_told" (defArgs s_look_told) (defBody s_look_told) (defScope s_look_told) .none kV_look_told dc_look_told pm_look_told an_look_told cd_look_told ct_look_told), sl_look_told⟩) (c_look_told : PySem.W.codeIn K cd_look_told "look_told" = true) (k_look_told : PySem.W.keepIn K (.ref f_look_told) = true)
    {od_worth_of an_worth_of : Option Addr} {sl_worth_of : Array (Option Value)} {oc_worth_of kV_worth_of dc_worth_of pm_worth_of cd_worth_of ct_worth_of : Value} (a_worth_of : PySem.W.nsIn K mainGlobals "worth_of" = some (some (.ref f_worth_of))) (l_worth_of : K.lookup f_worth_of = some ⟨oc_worth_of, od_worth_of, .func (PySem.W.fnOf "worth_of" "worth_of" (defArgs s_worth_of) (defBody s_worth_of) (defScope s_worth_of) .none kV_worth_of dc_worth_of pm_worth_of an_worth_of cd_worth_of ct_worth_of), sl_worth_of⟩) (c_worth_of : PySem.W.codeIn K cd_worth_of "worth_of" = true) (k_worth_of : PySem.W.keepIn K (.ref f_worth_of) = true)
    {od_is_row_of an_is_row_of : Option Addr} {sl_is_row_of : Array (Option Value)} {oc_is_row_of kV_is_row_of dc_is_row_of pm_is_row_of cd_is_row_of ct_is_row_of : Value} (a_is_row_of : PySem.W.nsIn K mainGlobals "is_row_of" = some (some (.ref f_is_row_of))) (l_is_row_of : K.lookup f_is_row_of = some ⟨oc_is_row_of, od_is_row_of, .func (PySem.W.fnOf "is_row_of" "is_row_of" (defArgs s_is_row_of) (defBody s_is_row_of) (defScope s_is_row_of) .none kV_is_row_of dc_is_row_of pm_is_row_of an_is_row_of cd_is_row_of ct_is_row_of), sl_is_row_of⟩) (c_is_row_of : PySem.W.codeIn K cd_is_row_of "is_row_of" = true) (k_is_row_of : PySem.W.keepIn K (.ref f_is_row_of) = true)
    {od_broken an_broken : Option Addr} {sl_broken : Array (Option Value)} {oc_broken kV_broken dc_broken pm_broken cd_broken ct_broken : Value} (a_broken : PySem.W.nsIn K mainGlobals "broken" = some (some (.ref f_broken))) (l_broken : K.lookup f_broken = some ⟨oc_broken, od_broken, .func (PySem.W.fnOf "broken" "broken" (defArgs s_broken) (defBody s_broken) (defScope s_broken) .none kV_broken dc_broken pm_broken an_broken cd_broken ct_broken), sl_broken⟩) (c_broken : PySem.W.codeIn K cd_broken "broken" = true) (k_broken : PySem.W.keepIn K (.ref f_broken) = true)
    {od_bounds an_bounds : Option Addr} {sl_bounds : Array (Option Value)} {oc_bounds kV_bounds dc_bounds pm_bounds cd_bounds ct_bounds : Value} (a_bounds : PySem.W.nsIn K mainGlobals "bounds" = some (some (.ref f_bounds))) (l_bounds : K.lookup f_bounds = some ⟨oc_bounds, od_bounds, .func (PySem.W.fnOf "bounds" "bounds" (defArgs s_bounds) (defBody s_bounds) (defScope s_bounds) .none kV_bounds dc_bounds pm_bounds an_bounds cd_bounds ct_bounds), sl_bounds⟩) (c_bounds : PySem.W.codeIn K cd_bounds "bounds" = true) (k_bounds : PySem.W.keepIn K (.ref f_bounds) = true)
    {od_how_many an_how_many : Option Addr} {sl_how_many : Array (Option Value)} {oc_how_many kV_how_many dc_how_many pm_how_many cd_how_many ct_how_many : Value} (a_how_many : PySem.W.nsIn K mainGlobals "how_many" = some (some (.ref f_how_many))) (l_how_many : K.lookup f_how_many = some ⟨oc_how_many, od_how_many, .func (PySem.W.fnOf "how_many" "how_many" (defArgs s_how_many) (defBody s_how_many) (defScope s_how_many) .none kV_how_many dc_how_many pm_how_many an_how_many cd_how_many ct_how_many), sl_how_many⟩) (c_how_many : PySem.W.codeIn K cd_how_many "how_many" = true) (k_how_many : PySem.W.keepIn K (.ref f_how_many) = true)
    {od_row_at an_row_at : Option Addr} {sl_row_at : Array (Option Value)} {oc_row_at kV_row_at dc_row_at pm_row_at cd_row_at ct_row_at : Value} (a_row_at : PySem.W.nsIn K mainGlobals "row_at" = some (some (.ref f_row_at))) (l_row_at : K.lookup f_row_at = some ⟨oc_row_at, od_row_at, .func (PySem.W.fnOf "row_at" "row_at" (defArgs s_row_at) (defBody s_row_at) (defScope s_row_at) .none kV_row_at dc_row_at pm_row_at an_row_at cd_row_at ct_row_at), sl_row_at⟩) (c_row_at : PySem.W.codeIn K cd_row_at "row_at" = true) (k_row_at : PySem.W.keepIn K (.ref f_row_at) = true)
    {od_number_of an_number_of : Option Addr} {sl_number_of : Array (Option Value)} {oc_number_of kV_number_of dc_number_of pm_number_of cd_number_of ct_number_of : Value} (a_number_of : PySem.W.nsIn K mainGlobals "number_of" = some (some (.ref f_number_of))) (l_number_of : K.lookup f_number_of = some ⟨oc_number_of, od_number_of, .func (PySem.W.fnOf "number_of" "number_of" (defArgs s_number_of) (defBody s_number_of) (defScope s_number_of) .none kV_number_of dc_number_of pm_number_of an_number_of cd_number_of ct_number_of), sl_number_of⟩) (c_number_of : PySem.W.codeIn K cd_number_of "number_of" = true) (k_number_of : PySem.W.keepIn K (.ref f_number_of) = true)
    {od_may an_may : Option Addr} {sl_may : Array (Option Value)} {oc_may kV_may dc_may pm_may cd_may ct_may : Value} (a_may : PySem.W.nsIn K mainGlobals "may" = some (some (.ref f_may))) (l_may : K.lookup f_may = some ⟨oc_may, od_may, .func (PySem.W.fnOf "may" "may" (defArgs s_may) (defBody s_may) (defScope s_may) .none kV_may dc_may pm_may an_may cd_may ct_may), sl_may⟩) (c_may : PySem.W.codeIn K cd_may "may" = true) (k_may : PySem.W.keepIn K (.ref f_may) = true)
    {od_sure an_sure : Option Addr} {sl_sure : Array (Option Value)} {oc_sure kV_sure dc_sure pm_sure cd_sure ct_sure : Value} (a_sure : PySem.W.nsIn K mainGlobals "sure" = some (some (.ref f_sure))) (l_sure : K.lookup f_sure = some ⟨oc_sure, od_sure, .func (PySem.W.fnOf "sure" "sure" (defArgs s_sure) (defBody s_sure) (defScope s_sure) .none kV_sure dc_sure pm_sure an_sure cd_sure ct_sure), sl_sure⟩) (c_sure : PySem.W.codeIn K cd_sure "sure" = true) (k_sure : PySem.W.keepIn K (.ref f_sure) = true)
    {od_clash an_clash : Option Addr} {sl_clash : Array (Option Value)} {oc_clash kV_clash dc_clash pm_clash cd_clash ct_clash : Value} (a_clash : PySem.W.nsIn K mainGlobals "clash" = some (some (.ref f_clash))) (l_clash : K.lookup f_clash = some ⟨oc_clash, od_clash, .func (PySem.W.fnOf "clash" "clash" (defArgs s_clash) (defBody s_clash) (defScope s_clash) .none kV_clash dc_clash pm_clash an_clash cd_clash ct_clash), sl_clash⟩) (c_clash : PySem.W.codeIn K cd_clash "clash" = true) (k_clash : PySem.W.keepIn K (.ref f_clash) = true)
    {od_is_clash an_is_clash : Option Addr} {sl_is_clash : Array (Option Value)} {oc_is_clash kV_is_clash dc_is_clash pm_is_clash cd_is_clash ct_is_clash : Value} (a_is_clash : PySem.W.nsIn K mainGlobals "is_clash" = some (some (.ref f_is_clash))) (l_is_clash : K.lookup f_is_clash = some ⟨oc_is_clash, od_is_clash, .func (PySem.W.fnOf "is_clash" "is_clash" (defArgs s_is_clash) (defBody s_is_clash) (defScope s_is_clash) .none kV_is_clash dc_is_clash pm_is_clash an_is_clash cd_is_clash ct_is_clash), sl_is_clash⟩) (c_is_clash : PySem.W.codeIn K cd_is_clash "is_clash" = true) (k_is_clash : PySem.W.keepIn K (.ref f_is_clash) = true)
    {od_left_out an_left_out : Option Addr} {sl_left_out : Array (Option Value)} {oc_left_out kV_left_out dc_left_out pm_left_out cd_left_out ct_left_out : Value} (a_left_out : PySem.W.nsIn K mainGlobals "left_out" = some (some (.ref f_left_out))) (l_left_out : K.lookup f_left_out = some ⟨oc_left_out, od_left_out, .func (PySem.W.fnOf "left_out" "left_out" (defArgs s_left_out) (defBody s_left_out) (defScope s_left_out) .none kV_left_out dc_left_out pm_left_out an_left_out cd_left_out ct_left_out), sl_left_out⟩) (c_left_out : PySem.W.codeIn K cd_left_out "left_out" = true) (k_left_out : PySem.W.keepIn K (.ref f_left_out) = true)
    {od_least_cost an_least_cost : Option Addr} {sl_least_cost : Array (Option Value)} {oc_least_cost kV_least_cost dc_least_cost pm_least_cost cd_least_cost ct_least_cost : Value} (a_least_cost : PySem.W.nsIn K mainGlobals "least_cost" = some (some (.ref f_least_cost))) (l_least_cost : K.lookup f_least_cost = some ⟨oc_least_cost, od_least_cost, .func (PySem.W.fnOf "least_cost" "least_cost" (defArgs s_least_cost) (defBody s_least_cost) (defScope s_least_cost) .none kV_least_cost dc_least_cost pm_least_cost an_least_cost cd_least_cost ct_least_cost), sl_least_cost⟩) (c_least_cost : PySem.W.codeIn K cd_least_cost "least_cost" = true) (k_least_cost : PySem.W.keepIn K (.ref f_least_cost) = true)
    {od_mended an_mended : Option Addr} {sl_mended : Array (Option Value)} {oc_mended kV_mended dc_mended pm_mended cd_mended ct_mended : Value} (a_mended : PySem.W.nsIn K mainGlobals "mended" = some (some (.ref f_mended))) (l_mended : K.lookup f_mended = some ⟨oc_mended, od_mended, .func (PySem.W.fnOf "mended" "mended" (defArgs s_mended) (defBody s_mended) (defScope s_mended) .none kV_mended dc_mended pm_mended an_mended cd_mended ct_mended), sl_mended⟩) (c_mended : PySem.W.codeIn K cd_mended "mended" = true) (k_mended : PySem.W.keepIn K (.ref f_mended) = true)
    {od_first_row an_first_row : Option Addr} {sl_first_row : Array (Option Value)} {oc_first_row kV_first_row dc_first_row pm_first_row cd_first_row ct_first_row : Value} (a_first_row : PySem.W.nsIn K mainGlobals "first_row" = some (some (.ref f_first_row))) (l_first_row : K.lookup f_first_row = some ⟨oc_first_row, od_first_row, .func (PySem.W.fnOf "first_row" "first_row" (defArgs s_first_row) (defBody s_first_row) (defScope s_first_row) .none kV_first_row dc_first_row pm_first_row an_first_row cd_first_row ct_first_row), sl_first_row⟩) (c_first_row : PySem.W.codeIn K cd_first_row "first_row" = true) (k_first_row : PySem.W.keepIn K (.ref f_first_row) = true)
    {od_look_fact an_look_fact : Option Addr} {sl_look_fact : Array (Option Value)} {oc_look_fact kV_look_fact dc_look_fact pm_look_fact cd_look_fact ct_look_fact : Value} (a_look_fact : PySem.W.nsIn K mainGlobals "look_fact" = some (some (.ref f_look_fact))) (l_look_fact : K.lookup f_look_fact = some ⟨oc_look_fact, od_look_fact, .func (PySem.W.fnOf "look_fact" "look_fact" (defArgs s_look_fact) (defBody s_look_fact) (defScope s_look_fact) .none kV_look_fact dc_look_fact pm_look_fact an_look_fact cd_look_fact ct_look_fact), sl_look_fact⟩) (c_look_fact : PySem.W.codeIn K cd_look_fact "look_fact" = true) (k_look_fact : PySem.W.keepIn K (.ref f_look_fact) = true)
    {od_worths an_worths : Option Addr} {sl_worths : Array (Option Value)} {oc_worths kV_worths dc_worths pm_worths cd_worths ct_worths : Value} (a_worths : PySem.W.nsIn K mainGlobals "worths" = some (some (.ref f_worths))) (l_worths : K.lookup f_worths = some ⟨oc_worths, od_worths, .func (PySem.W.fnOf "worths" "worths" (defArgs s_worths) (defBody s_worths) (defScope s_worths) .none kV_worths dc_worths pm_worths an_worths cd_worths ct_worths), sl_worths⟩) (c_worths : PySem.W.codeIn K cd_worths "worths" = true) (k_worths : PySem.W.keepIn K (.ref f_worths) = true)
    {od_follows an_follows : Option Addr} {sl_follows : Array (Option Value)} {oc_follows kV_follows dc_follows pm_follows cd_follows ct_follows : Value} (a_follows : PySem.W.nsIn K mainGlobals "follows" = some (some (.ref f_follows))) (l_follows : K.lookup f_follows = some ⟨oc_follows, od_follows, .func (PySem.W.fnOf "follows" "follows" (defArgs s_follows) (defBody s_follows) (defScope s_follows) .none kV_follows dc_follows pm_follows an_follows cd_follows ct_follows), sl_follows⟩) (c_follows : PySem.W.codeIn K cd_follows "follows" = true) (k_follows : PySem.W.keepIn K (.ref f_follows) = true)
    {od_parting an_parting : Option Addr} {sl_parting : Array (Option Value)} {oc_parting kV_parting dc_parting pm_parting cd_parting ct_parting : Value} (a_parting : PySem.W.nsIn K mainGlobals "parting" = some (some (.ref f_parting))) (l_parting : K.lookup f_parting = some ⟨oc_parting, od_parting, .func (PySem.W.fnOf "parting" "parting" (defArgs s_parting) (defBody s_parting) (defScope s_parting) .none kV_parting dc_parting pm_parting an_parting cd_parting ct_parting), sl_parting⟩) (c_parting : PySem.W.codeIn K cd_parting "parting" = true) (k_parting : PySem.W.keepIn K (.ref f_parting) = true)
    {od_needless an_needless : Option Addr} {sl_needless : Array (Option Value)} {oc_needless kV_needless dc_needless pm_needless cd_needless ct_needless : Value} (a_needless : PySem.W.nsIn K mainGlobals "needless" = some (some (.ref f_needless))) (l_needless : K.lookup f_needless = some ⟨oc_needless, od_needless, .func (PySem.W.fnOf "needless" "needless" (defArgs s_needless) (defBody s_needless) (defScope s_needless) .none kV_needless dc_needless pm_needless an_needless cd_needless ct_needless), sl_needless⟩) (c_needless : PySem.W.codeIn K cd_needless "needless" = true) (k_needless : PySem.W.keepIn K (.ref f_needless) = true)
    {od_lessened an_lessened : Option Addr} {sl_lessened : Array (Option Value)} {oc_lessened kV_lessened dc_lessened pm_lessened cd_lessened ct_lessened : Value} (a_lessened : PySem.W.nsIn K mainGlobals "lessened" = some (some (.ref f_lessened))) (l_lessened : K.lookup f_lessened = some ⟨oc_lessened, od_lessened, .func (PySem.W.fnOf "lessened" "lessened" (defArgs s_lessened) (defBody s_lessened) (defScope s_lessened) .none kV_lessened dc_lessened pm_lessened an_lessened cd_lessened ct_lessened), sl_lessened⟩) (c_lessened : PySem.W.codeIn K cd_lessened "lessened" = true) (k_lessened : PySem.W.keepIn K (.ref f_lessened) = true)
    {od_are_alike an_are_alike : Option Addr} {sl_are_alike : Array (Option Value)} {oc_are_alike kV_are_alike dc_are_alike pm_are_alike cd_are_alike ct_are_alike : Value} (a_are_alike : PySem.W.nsIn K mainGlobals "are_alike" = some (some (.ref f_are_alike))) (l_are_alike : K.lookup f_are_alike = some ⟨oc_are_alike, od_are_alike, .func (PySem.W.fnOf "are_alike" "are_alike" (defArgs s_are_alike) (defBody s_are_alike) (defScope s_are_alike) .none kV_are_alike dc_are_alike pm_are_alike an_are_alike cd_are_alike ct_are_alike), sl_are_alike⟩) (c_are_alike : PySem.W.codeIn K cd_are_alike "are_alike" = true) (k_are_alike : PySem.W.keepIn K (.ref f_are_alike) = true)
    {od_first_apart an_first_apart : Option Addr} {sl_first_apart : Array (Option Value)} {oc_first_apart kV_first_apart dc_first_apart pm_first_apart cd_first_apart ct_first_apart : Value} (a_first_apart : PySem.W.nsIn K mainGlobals "first_apart" = some (some (.ref f_first_apart))) (l_first_apart : K.lookup f_first_apart = some ⟨oc_first_apart, od_first_apart, .func (PySem.W.fnOf "first_apart" "first_apart" (defArgs s_first_apart) (defBody s_first_apart) (defScope s_first_apart) .none kV_first_apart dc_first_apart pm_first_apart an_first_apart cd_first_apart ct_first_apart), sl_first_apart⟩) (c_first_apart : PySem.W.codeIn K cd_first_apart "first_apart" = true) (k_first_apart : PySem.W.keepIn K (.ref f_first_apart) = true)
    {od_written an_written : Option Addr} {sl_written : Array (Option Value)} {oc_written kV_written dc_written pm_written cd_written ct_written : Value} (a_written : PySem.W.nsIn K mainGlobals "written" = some (some (.ref f_written))) (l_written : K.lookup f_written = some ⟨oc_written, od_written, .func (PySem.W.fnOf "written" "written" (defArgs s_written) (defBody s_written) (defScope s_written) .none kV_written dc_written pm_written an_written cd_written ct_written), sl_written⟩) (c_written : PySem.W.codeIn K cd_written "written" = true) (k_written : PySem.W.keepIn K (.ref f_written) = true)
    {od__law_cell an__law_cell : Option Addr} {sl__law_cell : Array (Option Value)} {oc__law_cell kV__law_cell dc__law_cell pm__law_cell cd__law_cell ct__law_cell : Value} (a__law_cell : PySem.W.nsIn K mainGlobals "_law_cell" = some (some (.ref f__law_cell))) (l__law_cell : K.lookup f__law_cell = some ⟨oc__law_cell, od__law_cell, .func (PySem.W.fnOf "_law_cell" "_law_cell" (defArgs s__law_cell) (defBody s__law_cell) (defScope s__law_cell) .none kV__law_cell dc__law_cell pm__law_cell an__law_cell cd__law_cell ct__law_cell), sl__law_cell⟩) (c__law_cell : PySem.W.codeIn K cd__law_cell "_law_cell" = true) (k__law_cell : PySem.W.keepIn K (.ref f__law_cell) = true)
    {od__law_mix an__law_mix : Option Addr} {sl__law_mix : Array (Option Value)} {oc__law_mix kV__law_mix dc__law_mix pm__law_mix cd__law_mix ct__law_mix : Value} (a__law_mix : PySem.W.nsIn K mainGlobals "_law_mix" = some (some (.ref f__law_mix))) (l__law_mix : K.lookup f__law_mix = some ⟨oc__law_mix, od__law_mix, .func (PySem.W.fnOf "_law_mix" "_law_mix" (defArgs s__law_mix) (defBody s__law_mix) (defScope s__law_mix) .none kV__law_mix dc__law_mix pm__law_mix an__law_mix cd__law_mix ct__law_mix), sl__law_mix⟩) (c__law_mix : PySem.W.codeIn K cd__law_mix "_law_mix" = true) (k__law_mix : PySem.W.keepIn K (.ref f__law_mix) = true)
    {od__law_draw an__law_draw : Option Addr} {sl__law_draw : Array (Option Value)} {oc__law_draw kV__law_draw dc__law_draw pm__law_draw cd__law_draw ct__law_draw : Value} (a__law_draw : PySem.W.nsIn K mainGlobals "_law_draw" = some (some (.ref f__law_draw))) (l__law_draw : K.lookup f__law_draw = some ⟨oc__law_draw, od__law_draw, .func (PySem.W.fnOf "_law_draw" "_law_draw" (defArgs s__law_draw) (defBody s__law_draw) (defScope s__law_draw) .none kV__law_draw dc__law_draw pm__law_draw an__law_draw cd__law_draw ct__law_draw), sl__law_draw⟩) (c__law_draw : PySem.W.codeIn K cd__law_draw "_law_draw" = true) (k__law_draw : PySem.W.keepIn K (.ref f__law_draw) = true)
    {od__law_pick an__law_pick : Option Addr} {sl__law_pick : Array (Option Value)} {oc__law_pick kV__law_pick dc__law_pick pm__law_pick cd__law_pick ct__law_pick : Value} (a__law_pick : PySem.W.nsIn K mainGlobals "_law_pick" = some (some (.ref f__law_pick))) (l__law_pick : K.lookup f__law_pick = some ⟨oc__law_pick, od__law_pick, .func (PySem.W.fnOf "_law_pick" "_law_pick" (defArgs s__law_pick) (defBody s__law_pick) (defScope s__law_pick) .none kV__law_pick dc__law_pick pm__law_pick an__law_pick cd__law_pick ct__law_pick), sl__law_pick⟩) (c__law_pick : PySem.W.codeIn K cd__law_pick "_law_pick" = true) (k__law_pick : PySem.W.keepIn K (.ref f__law_pick) = true)
    {od__law_refusal an__law_refusal : Option Addr} {sl__law_refusal : Array (Option Value)} {oc__law_refusal kV__law_refusal dc__law_refusal pm__law_refusal cd__law_refusal ct__law_refusal : Value} (a__law_refusal : PySem.W.nsIn K mainGlobals "_law_refusal" = some (some (.ref f__law_refusal))) (l__law_refusal : K.lookup f__law_refusal = some ⟨oc__law_refusal, od__law_refusal, .func (PySem.W.fnOf "_law_refusal" "_law_refusal" (defArgs s__law_refusal) (defBody s__law_refusal) (defScope s__law_refusal) .none kV__law_refusal dc__law_refusal pm__law_refusal an__law_refusal cd__law_refusal ct__law_refusal), sl__law_refusal⟩) (c__law_refusal : PySem.W.codeIn K cd__law_refusal "_law_refusal" = true) (k__law_refusal : PySem.W.keepIn K (.ref f__law_refusal) = true)
    {od__law_one_b an__law_one_b : Option Addr} {sl__law_one_b : Array (Option Value)} {oc__law_one_b kV__law_one_b dc__law_one_b pm__law_one_b cd__law_one_b ct__law_one_b : Value} (a__law_one_b : PySem.W.nsIn K mainGlobals "_law_one_b" = some (some (.ref f__law_one_b))) (l__law_one_b : K.lookup f__law_one_b = some ⟨oc__law_one_b, od__law_one_b, .func (PySem.W.fnOf "_law_one_b" "_law_one_b" (defArgs s__law_one_b) (defBody s__law_one_b) (defScope s__law_one_b) .none kV__law_one_b dc__law_one_b pm__law_one_b an__law_one_b cd__law_one_b ct__law_one_b), sl__law_one_b⟩) (c__law_one_b : PySem.W.codeIn K cd__law_one_b "_law_one_b" = true) (k__law_one_b : PySem.W.keepIn K (.ref f__law_one_b) = true)
    {od__law_one an__law_one : Option Addr} {sl__law_one : Array (Option Value)} {oc__law_one kV__law_one dc__law_one pm__law_one cd__law_one ct__law_one : Value} (a__law_one : PySem.W.nsIn K mainGlobals "_law_one" = some (some (.ref f__law_one))) (l__law_one : K.lookup f__law_one = some ⟨oc__law_one, od__law_one, .func (PySem.W.fnOf "_law_one" "_law_one" (defArgs s__law_one) (defBody s__law_one) (defScope s__law_one) .none kV__law_one dc__law_one pm__law_one an__law_one cd__law_one ct__law_one), sl__law_one⟩) (c__law_one : PySem.W.codeIn K cd__law_one "_law_one" = true) (k__law_one : PySem.W.keepIn K (.ref f__law_one) = true)
    {od__law_told an__law_told : Option Addr} {sl__law_told : Array (Option Value)} {oc__law_told kV__law_told dc__law_told pm__law_told cd__law_told ct__law_told : Value} (a__law_told : PySem.W.nsIn K mainGlobals "_law_told" = some (some (.ref f__law_told))) (l__law_told : K.lookup f__law_told = some ⟨oc__law_told, od__law_told, .func (PySem.W.fnOf "_law_told" "_law_told" (defArgs s__law_told) (defBody s__law_told) (defScope s__law_told) .none kV__law_told dc__law_told pm__law_told an__law_told cd__law_told ct__law_told), sl__law_told⟩) (c__law_told : PySem.W.codeIn K cd__law_told "_law_told" = true) (k__law_told : PySem.W.keepIn K (.ref f__law_told) = true)
    {od_law an_law : Option Addr} {sl_law : Array (Option Value)} {oc_law kV_law dc_law pm_law cd_law ct_law : Value} (a_law : PySem.W.nsIn K mainGlobals "law" = some (some (.ref f_law))) (l_law : K.lookup f_law = some ⟨oc_law, od_law, .func (PySem.W.fnOf "law" "law" (defArgs s_law) (defBody s_law) (defScope s_law) .none kV_law dc_law pm_law an_law cd_law ct_law), sl_law⟩) (c_law : PySem.W.codeIn K cd_law "law" = true) (k_law : PySem.W.keepIn K (.ref f_law) = true)
    (z_ValueError : PySem.W.nsIn K mainGlobals "ValueError" = some none)
    (z_all : PySem.W.nsIn K mainGlobals "all" = some none)
    (z_isinstance : PySem.W.nsIn K mainGlobals "isinstance" = some none)
    (z_len : PySem.W.nsIn K mainGlobals "len" = some none)
    (z_list : PySem.W.nsIn K mainGlobals "list" = some none)
    (z_max : PySem.W.nsIn K mainGlobals "max" = some none)
    (z_min : PySem.W.nsIn K mainGlobals "min" = some none)
    (z_range : PySem.W.nsIn K mainGlobals "range" = some none)
    {t_MOST_SIZE : Tok} (z_MOST_SIZE : PySem.W.nsIn K mainGlobals "MOST_SIZE" = some (some (.int 8 t_MOST_SIZE)))
    {t_MOST_WORTH : Tok} (z_MOST_WORTH : PySem.W.nsIn K mainGlobals "MOST_WORTH" = some (some (.int 9 t_MOST_WORTH)))
    {t_MOST_TOLD : Tok} (z_MOST_TOLD : PySem.W.nsIn K mainGlobals "MOST_TOLD" = some (some (.int 6 t_MOST_TOLD)))
    {a_W : Addr} {od_W : Option Addr} {sl_W : Array (Option Value)} {n_W : Nat} {t1_W t2_W : Tok} (z_WORDS : PySem.W.nsIn K mainGlobals "WORDS" = some (some (.ref a_W))) (y_WORDS : K.lookup a_W = some ⟨.type "tuple", od_W, .seq #[.str "greatest" t1_W, .str "least" t2_W] n_W, sl_W⟩)
    (g_BackError : PySem.W.nsIn K mainGlobals "BackError" = some (some (.ref C_BackError)))
    (q_BackError : PySem.W.excIn K C_BackError [.type "ValueError", .type "Exception", .type "BaseException", .type "object"] "ValueError.__new__" = true)
    (kp_BackError : PySem.W.keepIn K (.ref C_BackError) = true)
    (sb_BackError : PySem.W.subIn K (.ref C_BackError) (.type "BaseException") = some true)
    (ty_BackError : PySem.W.typeIn K (.ref C_BackError) = some (.type "type"))
    (ga_BackError : PySem.W.findIn K (.ref C_BackError) "__getattribute__" = some (some (.builtin "BaseException.__getattribute__")))
    (gg_BackError : PySem.W.findIn K (.ref C_BackError) "__getattr__" = some none)
    (hd_BackError : PySem.W.hasDictIn K C_BackError = true)
    (cl_BackError : PySem.W.findIn K (.ref C_BackError) "__class__" = some (some (.builtin "object.__class__")))
    (mo_BackError : PySem.W.mroIn K C_BackError (.type "object") = some true)
    (sB_BackError : PySem.W.subIn K (.ref C_BackError) (.ref C_BackError) = some true)
    (g_BadRow : PySem.W.nsIn K mainGlobals "BadRow" = some (some (.ref C_BadRow)))
    (q_BadRow : PySem.W.excIn K C_BadRow [.type "ValueError", .type "Exception", .type "BaseException", .type "object"] "ValueError.__new__" = true)
    (kp_BadRow : PySem.W.keepIn K (.ref C_BadRow) = true)
    (sb_BadRow : PySem.W.subIn K (.ref C_BadRow) (.type "BaseException") = some true)
    (ty_BadRow : PySem.W.typeIn K (.ref C_BadRow) = some (.type "type"))
    (ga_BadRow : PySem.W.findIn K (.ref C_BadRow) "__getattribute__" = some (some (.builtin "BaseException.__getattribute__")))
    (gg_BadRow : PySem.W.findIn K (.ref C_BadRow) "__getattr__" = some none)
    (hd_BadRow : PySem.W.hasDictIn K C_BadRow = true)
    (cl_BadRow : PySem.W.findIn K (.ref C_BadRow) "__class__" = some (some (.builtin "object.__class__")))
    (mo_BadRow : PySem.W.mroIn K C_BadRow (.type "object") = some true)
    (sB_BadRow : PySem.W.subIn K (.ref C_BadRow) (.ref C_BackError) = some true)
    (g_BadStretch : PySem.W.nsIn K mainGlobals "BadStretch" = some (some (.ref C_BadStretch)))
    (q_BadStretch : PySem.W.excIn K C_BadStretch [.type "ValueError", .type "Exception", .type "BaseException", .type "object"] "ValueError.__new__" = true)
    (kp_BadStretch : PySem.W.keepIn K (.ref C_BadStretch) = true)
    (sb_BadStretch : PySem.W.subIn K (.ref C_BadStretch) (.type "BaseException") = some true)
    (ty_BadStretch : PySem.W.typeIn K (.ref C_BadStretch) = some (.type "type"))
    (ga_BadStretch : PySem.W.findIn K (.ref C_BadStretch) "__getattribute__" = some (some (.builtin "BaseException.__getattribute__")))
    (gg_BadStretch : PySem.W.findIn K (.ref C_BadStretch) "__getattr__" = some none)
    (hd_BadStretch : PySem.W.hasDictIn K C_BadStretch = true)
    (cl_BadStretch : PySem.W.findIn K (.ref C_BadStretch) "__class__" = some (some (.builtin "object.__class__")))
    (mo_BadStretch : PySem.W.mroIn K C_BadStretch (.type "object") = some true)
    (sB_BadStretch : PySem.W.subIn K (.ref C_BadStretch) (.ref C_BackError) = some true)
    (g_BadSize : PySem.W.nsIn K mainGlobals "BadSize" = some (some (.ref C_BadSize)))
    (q_BadSize : PySem.W.excIn K C_BadSize [.type "ValueError", .type "Exception", .type "BaseException", .type "object"] "ValueError.__new__" = true)
    (kp_BadSize : PySem.W.keepIn K (.ref C_BadSize) = true)
    (sb_BadSize : PySem.W.subIn K (.ref C_BadSize) (.type "BaseException") = some true)
    (ty_BadSize : PySem.W.typeIn K (.ref C_BadSize) = some (.type "type"))
    (ga_BadSize : PySem.W.findIn K (.ref C_BadSize) "__getattribute__" = some (some (.builtin "BaseException.__getattribute__")))
    (gg_BadSize : PySem.W.findIn K (.ref C_BadSize) "__getattr__" = some none)
    (hd_BadSize : PySem.W.hasDictIn K C_BadSize = true)
    (cl_BadSize : PySem.W.findIn K (.ref C_BadSize) "__class__" = some (some (.builtin "object.__class__")))
    (mo_BadSize : PySem.W.mroIn K C_BadSize (.type "object") = some true)
    (sB_BadSize : PySem.W.subIn K (.ref C_BadSize) (.ref C_BackError) = some true)
    (g_BadTold : PySem.W.nsIn K mainGlobals "BadTold" = some (some (.ref C_BadTold)))
    (q_BadTold : PySem.W.excIn K C_BadTold [.type "ValueError", .type "Exception", .type "BaseException", .type "object"] "ValueError.__new__" = true)
    (kp_BadTold : PySem.W.keepIn K (.ref C_BadTold) = true)
    (sb_BadTold : PySem.W.subIn K (.ref C_BadTold) (.type "BaseException") = some true)
    (ty_BadTold : PySem.W.typeIn K (.ref C_BadTold) = some (.type "type"))
    (ga_BadTold : PySem.W.findIn K (.ref C_BadTold) "__getattribute__" = some (some (.builtin "BaseException.__getattribute__")))
    (gg_BadTold : PySem.W.findIn K (.ref C_BadTold) "__getattr__" = some none)
    (hd_BadTold : PySem.W.hasDictIn K C_BadTold = true)
    (cl_BadTold : PySem.W.findIn K (.ref C_BadTold) "__class__" = some (some (.builtin "object.__class__")))
    (mo_BadTold : PySem.W.mroIn K C_BadTold (.type "object") = some true)
    (sB_BadTold : PySem.W.subIn K (.ref C_BadTold) (.ref C_BackError) = some true)
    (g_NoRow : PySem.W.nsIn K mainGlobals "NoRow" = some (some (.ref C_NoRow)))
    (q_NoRow : PySem.W.excIn K C_NoRow [.type "ValueError", .type "Exception", .type "BaseException", .type "object"] "ValueError.__new__" = true)
    (kp_NoRow : PySem.W.keepIn K (.ref C_NoRow) = true)
    (sb_NoRow : PySem.W.subIn K (.ref C_NoRow) (.type "BaseException") = some true)
    (ty_NoRow : PySem.W.typeIn K (.ref C_NoRow) = some (.type "type"))
    (ga_NoRow : PySem.W.findIn K (.ref C_NoRow) "__getattribute__" = some (some (.builtin "BaseException.__getattribute__")))
    (gg_NoRow : PySem.W.findIn K (.ref C_NoRow) "__getattr__" = some none)
    (hd_NoRow : PySem.W.hasDictIn K C_NoRow = true)
    (cl_NoRow : PySem.W.findIn K (.ref C_NoRow) "__class__" = some (some (.builtin "object.__class__")))
    (mo_NoRow : PySem.W.mroIn K C_NoRow (.type "object") = some true)
    (sB_NoRow : PySem.W.subIn K (.ref C_NoRow) (.ref C_BackError) = some true)
    (g_BadNumber : PySem.W.nsIn K mainGlobals "BadNumber" = some (some (.ref C_BadNumber)))
    (q_BadNumber : PySem.W.excIn K C_BadNumber [.type "ValueError", .type "Exception", .type "BaseException", .type "object"] "ValueError.__new__" = true)
    (kp_BadNumber : PySem.W.keepIn K (.ref C_BadNumber) = true)
    (sb_BadNumber : PySem.W.subIn K (.ref C_BadNumber) (.type "BaseException") = some true)
    (ty_BadNumber : PySem.W.typeIn K (.ref C_BadNumber) = some (.type "type"))
    (ga_BadNumber : PySem.W.findIn K (.ref C_BadNumber) "__getattribute__" = some (some (.builtin "BaseException.__getattribute__")))
    (gg_BadNumber : PySem.W.findIn K (.ref C_BadNumber) "__getattr__" = some none)
    (hd_BadNumber : PySem.W.hasDictIn K C_BadNumber = true)
    (cl_BadNumber : PySem.W.findIn K (.ref C_BadNumber) "__class__" = some (some (.builtin "object.__class__")))
    (mo_BadNumber : PySem.W.mroIn K C_BadNumber (.type "object") = some true)
    (sB_BadNumber : PySem.W.subIn K (.ref C_BadNumber) (.ref C_BackError) = some true)
    (g_BadText : PySem.W.nsIn K mainGlobals "BadText" = some (some (.ref C_BadText)))
    (q_BadText : PySem.W.excIn K C_BadText [.type "ValueError", .type "Exception", .type "BaseException", .type "object"] "ValueError.__new__" = true)
    (kp_BadText : PySem.W.keepIn K (.ref C_BadText) = true)
    (sb_BadText : PySem.W.subIn K (.ref C_BadText) (.type "BaseException") = some true)
    (ty_BadText : PySem.W.typeIn K (.ref C_BadText) = some (.type "type"))
    (ga_BadText : PySem.W.findIn K (.ref C_BadText) "__getattribute__" = some (some (.builtin "BaseException.__getattribute__")))
    (gg_BadText : PySem.W.findIn K (.ref C_BadText) "__getattr__" = some none)
    (hd_BadText : PySem.W.hasDictIn K C_BadText = true)
    (cl_BadText : PySem.W.findIn K (.ref C_BadText) "__class__" = some (some (.builtin "object.__class__")))
    (mo_BadText : PySem.W.mroIn K C_BadText (.type "object") = some true)
    (sB_BadText : PySem.W.subIn K (.ref C_BadText) (.ref C_BackError) = some true)
    (cn : PySem.W.specialIn K (.builtin "object.__class__") "__get__" = some (some (.builtin "getset_descriptor.__get__"))) (ct : PySem.W.takesIn K (.builtin "object.__class__") = some true)
    (i_BadNumber_BackError : PySem.W.kitOne K (.ref C_BackError) (.ref C_BadNumber) = some false)
    (i_BadNumber_BadRow : PySem.W.kitOne K (.ref C_BadRow) (.ref C_BadNumber) = some false)
    (i_BadNumber_BadStretch : PySem.W.kitOne K (.ref C_BadStretch) (.ref C_BadNumber) = some false)
    (i_BadNumber_BadSize : PySem.W.kitOne K (.ref C_BadSize) (.ref C_BadNumber) = some false)
    (i_BadNumber_BadTold : PySem.W.kitOne K (.ref C_BadTold) (.ref C_BadNumber) = some false)
    (i_BadNumber_NoRow : PySem.W.kitOne K (.ref C_NoRow) (.ref C_BadNumber) = some false)
    (i_BadNumber_BadNumber : PySem.W.kitOne K (.ref C_BadNumber) (.ref C_BadNumber) = some true)
    (i_BadNumber_BadText : PySem.W.kitOne K (.ref C_BadText) (.ref C_BadNumber) = some false)
    (i_BadRow_BackError : PySem.W.kitOne K (.ref C_BackError) (.ref C_BadRow) = some false)
    (i_BadRow_BadRow : PySem.W.kitOne K (.ref C_BadRow) (.ref C_BadRow) = some true)
    (i_BadRow_BadStretch : PySem.W.kitOne K (.ref C_BadStretch) (.ref C_BadRow) = some false)
    (i_BadRow_BadSize : PySem.W.kitOne K (.ref C_BadSize) (.ref C_BadRow) = some false)
    (i_BadRow_BadTold : PySem.W.kitOne K (.ref C_BadTold) (.ref C_BadRow) = some false)
    (i_BadRow_NoRow : PySem.W.kitOne K (.ref C_NoRow) (.ref C_BadRow) = some false)
    (i_BadRow_BadNumber : PySem.W.kitOne K (.ref C_BadNumber) (.ref C_BadRow) = some false)
    (i_BadRow_BadText : PySem.W.kitOne K (.ref C_BadText) (.ref C_BadRow) = some false)
    (i_BadSize_BackError : PySem.W.kitOne K (.ref C_BackError) (.ref C_BadSize) = some false)
    (i_BadSize_BadRow : PySem.W.kitOne K (.ref C_BadRow) (.ref C_BadSize) = some false)
    (i_BadSize_BadStretch : PySem.W.kitOne K (.ref C_BadStretch) (.ref C_BadSize) = some false)
    (i_BadSize_BadSize : PySem.W.kitOne K (.ref C_BadSize) (.ref C_BadSize) = some true)
    (i_BadSize_BadTold : PySem.W.kitOne K (.ref C_BadTold) (.ref C_BadSize) = some false)
    (i_BadSize_NoRow : PySem.W.kitOne K (.ref C_NoRow) (.ref C_BadSize) = some false)
    (i_BadSize_BadNumber : PySem.W.kitOne K (.ref C_BadNumber) (.ref C_BadSize) = some false)
    (i_BadSize_BadText : PySem.W.kitOne K (.ref C_BadText) (.ref C_BadSize) = some false)
    (i_BadStretch_BackError : PySem.W.kitOne K (.ref C_BackError) (.ref C_BadStretch) = some false)
    (i_BadStretch_BadRow : PySem.W.kitOne K (.ref C_BadRow) (.ref C_BadStretch) = some false)
    (i_BadStretch_BadStretch : PySem.W.kitOne K (.ref C_BadStretch) (.ref C_BadStretch) = some true)
    (i_BadStretch_BadSize : PySem.W.kitOne K (.ref C_BadSize) (.ref C_BadStretch) = some false)
    (i_BadStretch_BadTold : PySem.W.kitOne K (.ref C_BadTold) (.ref C_BadStretch) = some false)
    (i_BadStretch_NoRow : PySem.W.kitOne K (.ref C_NoRow) (.ref C_BadStretch) = some false)
    (i_BadStretch_BadNumber : PySem.W.kitOne K (.ref C_BadNumber) (.ref C_BadStretch) = some false)
    (i_BadStretch_BadText : PySem.W.kitOne K (.ref C_BadText) (.ref C_BadStretch) = some false)
    (i_BadText_BackError : PySem.W.kitOne K (.ref C_BackError) (.ref C_BadText) = some false)
    (i_BadText_BadRow : PySem.W.kitOne K (.ref C_BadRow) (.ref C_BadText) = some false)
    (i_BadText_BadStretch : PySem.W.kitOne K (.ref C_BadStretch) (.ref C_BadText) = some false)
    (i_BadText_BadSize : PySem.W.kitOne K (.ref C_BadSize) (.ref C_BadText) = some false)
    (i_BadText_BadTold : PySem.W.kitOne K (.ref C_BadTold) (.ref C_BadText) = some false)
    (i_BadText_NoRow : PySem.W.kitOne K (.ref C_NoRow) (.ref C_BadText) = some false)
    (i_BadText_BadNumber : PySem.W.kitOne K (.ref C_BadNumber) (.ref C_BadText) = some false)
    (i_BadText_BadText : PySem.W.kitOne K (.ref C_BadText) (.ref C_BadText) = some true)
    (i_BadTold_BackError : PySem.W.kitOne K (.ref C_BackError) (.ref C_BadTold) = some false)
    (i_BadTold_BadRow : PySem.W.kitOne K (.ref C_BadRow) (.ref C_BadTold) = some false)
    (i_BadTold_BadStretch : PySem.W.kitOne K (.ref C_BadStretch) (.ref C_BadTold) = some false)
    (i_BadTold_BadSize : PySem.W.kitOne K (.ref C_BadSize) (.ref C_BadTold) = some false)
    (i_BadTold_BadTold : PySem.W.kitOne K (.ref C_BadTold) (.ref C_BadTold) = some true)
    (i_BadTold_NoRow : PySem.W.kitOne K (.ref C_NoRow) (.ref C_BadTold) = some false)
    (i_BadTold_BadNumber : PySem.W.kitOne K (.ref C_BadNumber) (.ref C_BadTold) = some false)
    (i_BadTold_BadText : PySem.W.kitOne K (.ref C_BadText) (.ref C_BadTold) = some false)
    (i_NoRow_BackError : PySem.W.kitOne K (.ref C_BackError) (.ref C_NoRow) = some false)
    (i_NoRow_BadRow : PySem.W.kitOne K (.ref C_BadRow) (.ref C_NoRow) = some false)
    (i_NoRow_BadStretch : PySem.W.kitOne K (.ref C_BadStretch) (.ref C_NoRow) = some false)
    (i_NoRow_BadSize : PySem.W.kitOne K (.ref C_BadSize) (.ref C_NoRow) = some false)
    (i_NoRow_BadTold : PySem.W.kitOne K (.ref C_BadTold) (.ref C_NoRow) = some false)
    (i_NoRow_NoRow : PySem.W.kitOne K (.ref C_NoRow) (.ref C_NoRow) = some true)
    (i_NoRow_BadNumber : PySem.W.kitOne K (.ref C_BadNumber) (.ref C_NoRow) = some false)
    (i_NoRow_BadText : PySem.W.kitOne K (.ref C_BadText) (.ref C_NoRow) = some false)
    (i_ValueError_BackError : PySem.W.kitOne K (.ref C_BackError) (.type "ValueError") = some true)
    (i_ValueError_BadRow : PySem.W.kitOne K (.ref C_BadRow) (.type "ValueError") = some true)
    (i_ValueError_BadStretch : PySem.W.kitOne K (.ref C_BadStretch) (.type "ValueError") = some true)
    (i_ValueError_BadSize : PySem.W.kitOne K (.ref C_BadSize) (.type "ValueError") = some true)
    (i_ValueError_BadTold : PySem.W.kitOne K (.ref C_BadTold) (.type "ValueError") = some true)
    (i_ValueError_NoRow : PySem.W.kitOne K (.ref C_NoRow) (.type "ValueError") = some true)
    (i_ValueError_BadNumber : PySem.W.kitOne K (.ref C_BadNumber) (.type "ValueError") = some true)
    (i_ValueError_BadText : PySem.W.kitOne K (.ref C_BadText) (.type "ValueError") = some true)
    : ∃ fd : FuncData, (∀ (s : Shared) (v : Value), BindsTo s fd ⟨[v], []⟩ [("script", v)]) ∧ ∀ base : Heap, K.In base → base.Ns mainGlobals mg → FnOk l.prog w K mg base (L2.CX l.prog w) 8 fa fd ["script"] (spLaw K) := by
  have e := hfa.symm.trans (PySem.W.mg_of X G a_law)
  cases e
  let R : Rx := ⟨K, caOf C_BadRow C_BadStretch C_BadSize C_BadTold C_NoRow C_BadNumber C_BadText, fun _ _ _ _ _ _ => False, fun h _ _ => h.elim⟩
  have T : Txt R mg C_BackError := {
    n_ValueError := PySem.W.mg_none_of X G z_ValueError
    n_all := PySem.W.mg_none_of X G z_all
    n_isinstance := PySem.W.mg_none_of X G z_isinstance
    n_len := PySem.W.mg_none_of X G z_len
    n_list := PySem.W.mg_none_of X G z_list
    n_max := PySem.W.mg_none_of X G z_max
    n_min := PySem.W.mg_none_of X G z_min
    n_range := PySem.W.mg_none_of X G z_range
    g_MOST_SIZE := ⟨_, PySem.W.mg_of X G z_MOST_SIZE⟩
    g_MOST_WORTH := ⟨_, PySem.W.mg_of X G z_MOST_WORTH⟩
    g_MOST_TOLD := ⟨_, PySem.W.mg_of X G z_MOST_TOLD⟩
    w_WORDS := ⟨_, PySem.W.mg_of X G z_WORDS, words_dt y_WORDS⟩
    e_BadRow := ⟨PySem.W.mg_of X G g_BadRow, q_BadRow, kp_BadRow, sb_BadRow, ty_BadRow⟩
    e_BadStretch := ⟨PySem.W.mg_of X G g_BadStretch, q_BadStretch, kp_BadStretch, sb_BadStretch, ty_BadStretch⟩
    e_BadSize := ⟨PySem.W.mg_of X G g_BadSize, q_BadSize, kp_BadSize, sb_BadSize, ty_BadSize⟩
    e_BadTold := ⟨PySem.W.mg_of X G g_BadTold, q_BadTold, kp_BadTold, sb_BadTold, ty_BadTold⟩
    e_NoRow := ⟨PySem.W.mg_of X G g_NoRow, q_NoRow, kp_NoRow, sb_NoRow, ty_NoRow⟩
    e_BadNumber := ⟨PySem.W.mg_of X G g_BadNumber, q_BadNumber, kp_BadNumber, sb_BadNumber, ty_BadNumber⟩
    e_BadText := ⟨PySem.W.mg_of X G g_BadText, q_BadText, kp_BadText, sb_BadText, ty_BadText⟩
    g_BackError := PySem.W.mg_of X G g_BackError
    x_BackError := fun c => match c with | 0 => PySem.W.exm_ref sb_BackError hd_BackError ty_BackError sB_BadRow | 1 => PySem.W.exm_ref sb_BackError hd_BackError ty_BackError sB_BadStretch | 2 => PySem.W.exm_ref sb_BackError hd_BackError ty_BackError sB_BadSize | 3 => PySem.W.exm_ref sb_BackError hd_BackError ty_BackError sB_BadTold | 4 => PySem.W.exm_ref sb_BackError hd_BackError ty_BackError sB_NoRow | 5 => PySem.W.exm_ref sb_BackError hd_BackError ty_BackError sB_BadNumber | 6 => PySem.W.exm_ref sb_BackError hd_BackError ty_BackError sB_BadText | _ + 7 => PySem.W.exm_ref sb_BackError hd_BackError ty_BackError sB_BadRow
    xc := fun c => match c with | 0 => (⟨ga_BadRow, gg_BadRow, sb_BadRow, hd_BadRow, cl_BadRow, cn, ct, mo_BadRow⟩ : ExcC K C_BadRow) | 1 => (⟨ga_BadStretch, gg_BadStretch, sb_BadStretch, hd_BadStretch, cl_BadStretch, cn, ct, mo_BadStretch⟩ : ExcC K C_BadStretch) | 2 => (⟨ga_BadSize, gg_BadSize, sb_BadSize, hd_BadSize, cl_BadSize, cn, ct, mo_BadSize⟩ : ExcC K C_BadSize) | 3 => (⟨ga_BadTold, gg_BadTold, sb_BadTold, hd_BadTold, cl_BadTold, cn, ct, mo_BadTold⟩ : ExcC K C_BadTold) | 4 => (⟨ga_NoRow, gg_NoRow, sb_NoRow, hd_NoRow, cl_NoRow, cn, ct, mo_NoRow⟩ : ExcC K C_NoRow) | 5 => (⟨ga_BadNumber, gg_BadNumber, sb_BadNumber, hd_BadNumber, cl_BadNumber, cn, ct, mo_BadNumber⟩ : ExcC K C_BadNumber) | 6 => (⟨ga_BadText, gg_BadText, sb_BadText, hd_BadText, cl_BadText, cn, ct, mo_BadText⟩ : ExcC K C_BadText) | _ + 7 => (⟨ga_BadRow, gg_BadRow, sb_BadRow, hd_BadRow, cl_BadRow, cn, ct, mo_BadRow⟩ : ExcC K C_BadRow)
    k_BadNumber := fun c => match c with | 0 => i_BadNumber_BadRow | 1 => i_BadNumber_BadStretch | 2 => i_BadNumber_BadSize | 3 => i_BadNumber_BadTold | 4 => i_BadNumber_NoRow | 5 => i_BadNumber_BadNumber | 6 => i_BadNumber_BadText | _ + 7 => i_BadNumber_BadRow
    k_BadRow := fun c => match c with | 0 => i_BadRow_BadRow | 1 => i_BadRow_BadStretch | 2 => i_BadRow_BadSize | 3 => i_BadRow_BadTold | 4 => i_BadRow_NoRow | 5 => i_BadRow_BadNumber | 6 => i_BadRow_BadText | _ + 7 => i_BadRow_BadRow
    k_BadSize := fun c => match c with | 0 => i_BadSize_BadRow | 1 => i_BadSize_BadStretch | 2 => i_BadSize_BadSize | 3 => i_BadSize_BadTold | 4 => i_BadSize_NoRow | 5 => i_BadSize_BadNumber | 6 => i_BadSize_BadText | _ + 7 => i_BadSize_BadRow
    k_BadStretch := fun c => match c with | 0 => i_BadStretch_BadRow | 1 => i_BadStretch_BadStretch | 2 => i_BadStretch_BadSize | 3 => i_BadStretch_BadTold | 4 => i_BadStretch_NoRow | 5 => i_BadStretch_BadNumber | 6 => i_BadStretch_BadText | _ + 7 => i_BadStretch_BadRow
    k_BadText := fun c => match c with | 0 => i_BadText_BadRow | 1 => i_BadText_BadStretch | 2 => i_BadText_BadSize | 3 => i_BadText_BadTold | 4 => i_BadText_NoRow | 5 => i_BadText_BadNumber | 6 => i_BadText_BadText | _ + 7 => i_BadText_BadRow
    k_BadTold := fun c => match c with | 0 => i_BadTold_BadRow | 1 => i_BadTold_BadStretch | 2 => i_BadTold_BadSize | 3 => i_BadTold_BadTold | 4 => i_BadTold_NoRow | 5 => i_BadTold_BadNumber | 6 => i_BadTold_BadText | _ + 7 => i_BadTold_BadRow
    k_NoRow := fun c => match c with | 0 => i_NoRow_BadRow | 1 => i_NoRow_BadStretch | 2 => i_NoRow_BadSize | 3 => i_NoRow_BadTold | 4 => i_NoRow_NoRow | 5 => i_NoRow_BadNumber | 6 => i_NoRow_BadText | _ + 7 => i_NoRow_BadRow
    k_ValueError := fun c => match c with | 0 => i_ValueError_BadRow | 1 => i_ValueError_BadStretch | 2 => i_ValueError_BadSize | 3 => i_ValueError_BadTold | 4 => i_ValueError_NoRow | 5 => i_ValueError_BadNumber | 6 => i_ValueError_BadText | _ + 7 => i_ValueError_BadRow
  }
  have F_look_sizes := fun_mk (st := s_look_sizes) l_look_sizes c_look_sizes k_look_sizes
  have bi_look_sizes := F_look_sizes.binds (ps := ["size", "most"]) fun _ _ _ _ _ _ us hl => match us, hl with | [_, _], _ => rfl
  have F_look_row := fun_mk (st := s_look_row) l_look_row c_look_row k_look_row
  have bi_look_row := F_look_row.binds (ps := ["row"]) fun _ _ _ _ _ _ us hl => match us, hl with | [_], _ => rfl
  have F_is_fact := fun_mk (st := s_is_fact) l_is_fact c_is_fact k_is_fact
  have bi_is_fact := F_is_fact.binds (ps := ["size", "most", "fact"]) fun _ _ _ _ _ _ us hl => match us, hl with | [_, _, _], _ => rfl
  have F_look_told := fun_mk (st := s_look_told) l_look_told c_look_told k_look_told
  have bi_look_told := F_look_told.binds (ps := ["size", "most", "told"]) fun _ _ _ _ _ _ us hl => match us, hl with | [_, _, _], _ => rfl
  have F_worth_of := fun_mk (st := s_worth_of) l_worth_of c_worth_of k_worth_of
  have bi_worth_of := F_worth_of.binds (ps := ["row", "fact"]) fun _ _ _ _ _ _ us hl => match us, hl with | [_, _], _ => rfl
  have F_is_row_of := fun_mk (st := s_is_row_of) l_is_row_of c_is_row_of k_is_row_of
  have bi_is_row_of := F_is_row_of.binds (ps := ["size", "most", "row"]) fun _ _ _ _ _ _ us hl => match us, hl with | [_, _, _], _ => rfl
  have F_broken := fun_mk (st := s_broken) l_broken c_broken k_broken
  have bi_broken := F_broken.binds (ps := ["size", "most", "told", "row"]) fun _ _ _ _ _ _ us hl => match us, hl with | [_, _, _, _], _ => rfl
  have F_bounds := fun_mk (st := s_bounds) l_bounds c_bounds k_bounds
  have bi_bounds := F_bounds.binds (ps := ["size", "most", "told"]) fun _ _ _ _ _ _ us hl => match us, hl with | [_, _, _], _ => rfl
  have F_how_many := fun_mk (st := s_how_many) l_how_many c_how_many k_how_many
  have bi_how_many := F_how_many.binds (ps := ["size", "most", "told"]) fun _ _ _ _ _ _ us hl => match us, hl with | [_, _, _], _ => rfl
  have F_row_at := fun_mk (st := s_row_at) l_row_at c_row_at k_row_at
  have bi_row_at := F_row_at.binds (ps := ["size", "most", "told", "number"]) fun _ _ _ _ _ _ us hl => match us, hl with | [_, _, _, _], _ => rfl
  have F_number_of := fun_mk (st := s_number_of) l_number_of c_number_of k_number_of
  have bi_number_of := F_number_of.binds (ps := ["size", "most", "told", "row"]) fun _ _ _ _ _ _ us hl => match us, hl with | [_, _, _, _], _ => rfl
  have F_may := fun_mk (st := s_may) l_may c_may k_may
  have bi_may := F_may.binds (ps := ["size", "most", "told", "place"]) fun _ _ _ _ _ _ us hl => match us, hl with | [_, _, _, _], _ => rfl
  have F_sure := fun_mk (st := s_sure) l_sure c_sure k_sure
  have bi_sure := F_sure.binds (ps := ["size", "most", "told"]) fun _ _ _ _ _ _ us hl => match us, hl with | [_, _, _], _ => rfl
  have F_clash := fun_mk (st := s_clash) l_clash c_clash k_clash
  have bi_clash := F_clash.binds (ps := ["size", "most", "told"]) fun _ _ _ _ _ _ us hl => match us, hl with | [_, _, _], _ => rfl
  have F_is_clash := fun_mk (st := s_is_clash) l_is_clash c_is_clash k_is_clash
  have bi_is_clash := F_is_clash.binds (ps := ["size", "most", "told", "some"]) fun _ _ _ _ _ _ us hl => match us, hl with | [_, _, _, _], _ => rfl
  have F_left_out := fun_mk (st := s_left_out) l_left_out c_left_out k_left_out
  have bi_left_out := F_left_out.binds (ps := ["size", "most", "told"]) fun _ _ _ _ _ _ us hl => match us, hl with | [_, _, _], _ => rfl
  have F_least_cost := fun_mk (st := s_least_cost) l_least_cost c_least_cost k_least_cost
  have bi_least_cost := F_least_cost.binds (ps := ["size", "most", "told"]) fun _ _ _ _ _ _ us hl => match us, hl with | [_, _, _], _ => rfl
  have F_mended := fun_mk (st := s_mended) l_mended c_mended k_mended
  have bi_mended := F_mended.binds (ps := ["size", "most", "told"]) fun _ _ _ _ _ _ us hl => match us, hl with | [_, _, _], _ => rfl
  have F_first_row := fun_mk (st := s_first_row) l_first_row c_first_row k_first_row
  have bi_first_row := F_first_row.binds (ps := ["size", "most", "told"]) fun _ _ _ _ _ _ us hl => match us, hl with | [_, _, _], _ => rfl
  have F_look_fact := fun_mk (st := s_look_fact) l_look_fact c_look_fact k_look_fact
  have bi_look_fact := F_look_fact.binds (ps := ["size", "most", "told", "fact"]) fun _ _ _ _ _ _ us hl => match us, hl with | [_, _, _, _], _ => rfl
  have F_worths := fun_mk (st := s_worths) l_worths c_worths k_worths
  have bi_worths := F_worths.binds (ps := ["size", "most", "told", "word", "first", "last"]) fun _ _ _ _ _ _ us hl => match us, hl with | [_, _, _, _, _, _], _ => rfl
  have F_follows := fun_mk (st := s_follows) l_follows c_follows k_follows
  have bi_follows := F_follows.binds (ps := ["size", "most", "told", "fact"]) fun _ _ _ _ _ _ us hl => match us, hl with | [_, _, _, _], _ => rfl
  have F_parting := fun_mk (st := s_parting) l_parting c_parting k_parting
  have bi_parting := F_parting.binds (ps := ["size", "most", "told", "fact"]) fun _ _ _ _ _ _ us hl => match us, hl with | [_, _, _, _], _ => rfl
  have F_needless := fun_mk (st := s_needless) l_needless c_needless k_needless
  have bi_needless := F_needless.binds (ps := ["size", "most", "told"]) fun _ _ _ _ _ _ us hl => match us, hl with | [_, _, _], _ => rfl
  have F_lessened := fun_mk (st := s_lessened) l_lessened c_lessened k_lessened
  have bi_lessened := F_lessened.binds (ps := ["size", "most", "told"]) fun _ _ _ _ _ _ us hl => match us, hl with | [_, _, _], _ => rfl
  have F_are_alike := fun_mk (st := s_are_alike) l_are_alike c_are_alike k_are_alike
  have bi_are_alike := F_are_alike.binds (ps := ["size", "most", "one", "other"]) fun _ _ _ _ _ _ us hl => match us, hl with | [_, _, _, _], _ => rfl
  have F_first_apart := fun_mk (st := s_first_apart) l_first_apart c_first_apart k_first_apart
  have bi_first_apart := F_first_apart.binds (ps := ["size", "most", "one", "other"]) fun _ _ _ _ _ _ us hl => match us, hl with | [_, _, _, _], _ => rfl
  have F_written := fun_mk (st := s_written) l_written c_written k_written
  have bi_written := F_written.binds (ps := ["size", "most", "told"]) fun _ _ _ _ _ _ us hl => match us, hl with | [_, _, _], _ => rfl
  have F__law_cell := fun_mk (st := s__law_cell) l__law_cell c__law_cell k__law_cell
  have bi__law_cell := F__law_cell.binds (ps := ["script", "k"]) fun _ _ _ _ _ _ us hl => match us, hl with | [_, _], _ => rfl
  have F__law_mix := fun_mk (st := s__law_mix) l__law_mix c__law_mix k__law_mix
  have bi__law_mix := F__law_mix.binds (ps := ["script", "k"]) fun _ _ _ _ _ _ us hl => match us, hl with | [_, _], _ => rfl
  have F__law_draw := fun_mk (st := s__law_draw) l__law_draw c__law_draw k__law_draw
  have bi__law_draw := F__law_draw.binds (ps := ["script", "town", "many"]) fun _ _ _ _ _ _ us hl => match us, hl with | [_, _, _], _ => rfl
  have F__law_pick := fun_mk (st := s__law_pick) l__law_pick c__law_pick k__law_pick
  have bi__law_pick := F__law_pick.binds (ps := ["script", "town", "some"]) fun _ _ _ _ _ _ us hl => match us, hl with | [_, _, _], _ => rfl
  have F__law_refusal := fun_mk (st := s__law_refusal) l__law_refusal c__law_refusal k__law_refusal
  have bi__law_refusal := F__law_refusal.binds (ps := ["caught"]) fun _ _ _ _ _ _ us hl => match us, hl with | [_], _ => rfl
  have F__law_one_b := fun_mk (st := s__law_one_b) l__law_one_b c__law_one_b k__law_one_b
  have bi__law_one_b := F__law_one_b.binds (ps := ["kind", "some"]) fun _ _ _ _ _ _ us hl => match us, hl with | [_, _], _ => rfl
  have F__law_one := fun_mk (st := s__law_one) l__law_one c__law_one k__law_one
  have bi__law_one := F__law_one.binds (ps := ["kind", "some"]) fun _ _ _ _ _ _ us hl => match us, hl with | [_, _], _ => rfl
  have F__law_told := fun_mk (st := s__law_told) l__law_told c__law_told k__law_told
  have bi__law_told := F__law_told.binds (ps := ["kind", "some"]) fun _ _ _ _ _ _ us hl => match us, hl with | [_, _], _ => rfl
  have F_law := fun_mk (st := s_law) l_law c_law k_law
  have bi_law := F_law.binds (ps := ["script"]) fun _ _ _ _ _ _ us hl => match us, hl with | [_], _ => rfl
  refine ⟨PySem.W.fnOf "law" "law" (defArgs s_law) (defBody s_law) (defScope s_law) .none kV_law dc_law pm_law an_law cd_law ct_law, fun s v => .of_eq rfl, fun base _ _ => ?_⟩
  have h_look_sizes : FnD R l.prog w mg base 1 "look_sizes" 2 m_look_sizes := ok_look_sizes T F_look_sizes (PySem.W.mg_of X G a_look_sizes) bi_look_sizes 
  have h_look_row : FnD R l.prog w mg base 1 "look_row" 1 m_look_row := ok_look_row T F_look_row (PySem.W.mg_of X G a_look_row) bi_look_row 
  have h_is_fact : FnD R l.prog w mg base 1 "is_fact" 3 m_is_fact := ok_is_fact T F_is_fact (PySem.W.mg_of X G a_is_fact) bi_is_fact 
  have h_look_told : FnD R l.prog w mg base 2 "look_told" 3 m_look_told := ok_look_told T F_look_told (PySem.W.mg_of X G a_look_told) bi_look_told h_look_sizes h_is_fact
  have h_worth_of : FnD R l.prog w mg base 1 "worth_of" 2 m_worth_of := ok_worth_of T F_worth_of (PySem.W.mg_of X G a_worth_of) bi_worth_of 
  have h_is_row_of : FnD R l.prog w mg base 1 "is_row_of" 3 m_is_row_of := ok_is_row_of T F_is_row_of (PySem.W.mg_of X G a_is_row_of) bi_is_row_of 
  have h_broken : FnD R l.prog w mg base 3 "broken" 4 m_broken := ok_broken T F_broken (PySem.W.mg_of X G a_broken) bi_broken h_look_told h_look_row h_is_row_of h_worth_of
  have h_bounds : FnD R l.prog w mg base 3 "bounds" 3 m_bounds := ok_bounds T F_bounds (PySem.W.mg_of X G a_bounds) bi_bounds h_look_told
  have h_how_many : FnD R l.prog w mg base 3 "how_many" 3 m_how_many := ok_how_many T F_how_many (PySem.W.mg_of X G a_how_many) bi_how_many h_look_told
  have h_row_at : FnD R l.prog w mg base 3 "row_at" 4 m_row_at := ok_row_at T F_row_at (PySem.W.mg_of X G a_row_at) bi_row_at h_look_told
  have h_number_of : FnD R l.prog w mg base 3 "number_of" 4 m_number_of := ok_number_of T F_number_of (PySem.W.mg_of X G a_number_of) bi_number_of h_look_told h_look_row
  have h_may : FnD R l.prog w mg base 3 "may" 4 m_may := ok_may T F_may (PySem.W.mg_of X G a_may) bi_may h_look_told
  have h_sure : FnD R l.prog w mg base 3 "sure" 3 m_sure := ok_sure T F_sure (PySem.W.mg_of X G a_sure) bi_sure h_look_told
  have h_clash : FnD R l.prog w mg base 3 "clash" 3 m_clash := ok_clash T F_clash (PySem.W.mg_of X G a_clash) bi_clash h_look_told
  have h_is_clash : FnD R l.prog w mg base 3 "is_clash" 4 m_is_clash := ok_is_clash T F_is_clash (PySem.W.mg_of X G a_is_clash) bi_is_clash h_look_told
  have h_left_out : FnD R l.prog w mg base 3 "left_out" 3 m_left_out := ok_left_out T F_left_out (PySem.W.mg_of X G a_left_out) bi_left_out h_look_told
  have h_least_cost : FnD R l.prog w mg base 3 "least_cost" 3 m_least_cost := ok_least_cost T F_least_cost (PySem.W.mg_of X G a_least_cost) bi_least_cost h_look_told
  have h_mended : FnD R l.prog w mg base 3 "mended" 3 m_mended := ok_mended T F_mended (PySem.W.mg_of X G a_mended) bi_mended h_look_told
  have h_first_row : FnD R l.prog w mg base 3 "first_row" 3 m_first_row := ok_first_row T F_first_row (PySem.W.mg_of X G a_first_row) bi_first_row h_look_told
  have h_look_fact : FnD R l.prog w mg base 3 "look_fact" 4 m_look_fact := ok_look_fact T F_look_fact (PySem.W.mg_of X G a_look_fact) bi_look_fact h_look_told h_is_fact
  have h_worths : FnD R l.prog w mg base 4 "worths" 6 m_worths := ok_worths T F_worths (PySem.W.mg_of X G a_worths) bi_worths h_look_fact
  have h_follows : FnD R l.prog w mg base 4 "follows" 4 m_follows := ok_follows T F_follows (PySem.W.mg_of X G a_follows) bi_follows h_look_fact
  have h_parting : FnD R l.prog w mg base 4 "parting" 4 m_parting := ok_parting T F_parting (PySem.W.mg_of X G a_parting) bi_parting h_look_fact
  have h_needless : FnD R l.prog w mg base 3 "needless" 3 m_needless := ok_needless T F_needless (PySem.W.mg_of X G a_needless) bi_needless h_look_told
  have h_lessened : FnD R l.prog w mg base 3 "lessened" 3 m_lessened := ok_lessened T F_lessened (PySem.W.mg_of X G a_lessened) bi_lessened h_look_told
  have h_are_alike : FnD R l.prog w mg base 3 "are_alike" 4 m_are_alike := ok_are_alike T F_are_alike (PySem.W.mg_of X G a_are_alike) bi_are_alike h_look_told
  have h_first_apart : FnD R l.prog w mg base 3 "first_apart" 4 m_first_apart := ok_first_apart T F_first_apart (PySem.W.mg_of X G a_first_apart) bi_first_apart h_look_told
  have h_written : FnD R l.prog w mg base 3 "written" 3 m_written := ok_written T F_written (PySem.W.mg_of X G a_written) bi_written h_look_told
  have h__law_cell : FnD R l.prog w mg base 1 "_law_cell" 2 m__law_cell := ok__law_cell T F__law_cell (PySem.W.mg_of X G a__law_cell) bi__law_cell 
  have h__law_mix : FnD R l.prog w mg base 2 "_law_mix" 2 m__law_mix := ok__law_mix T F__law_mix (PySem.W.mg_of X G a__law_mix) bi__law_mix h__law_cell
  have h__law_draw : FnD R l.prog w mg base 3 "_law_draw" 3 m__law_draw := ok__law_draw T F__law_draw (PySem.W.mg_of X G a__law_draw) bi__law_draw h__law_mix
  have h__law_pick : FnD R l.prog w mg base 4 "_law_pick" 3 m__law_pick := ok__law_pick T F__law_pick (PySem.W.mg_of X G a__law_pick) bi__law_pick h__law_draw
  have h__law_refusal : FnD R l.prog w mg base 1 "_law_refusal" 1 m__law_refusal := ok__law_refusal T F__law_refusal (PySem.W.mg_of X G a__law_refusal) bi__law_refusal 
  have h__law_one_b : FnD R l.prog w mg base 5 "_law_one_b" 2 m__law_one_b := ok__law_one_b T F__law_one_b (PySem.W.mg_of X G a__law_one_b) bi__law_one_b h_worths h_needless h_lessened h_follows h_are_alike h_parting h_first_apart h_written
  have h__law_one : FnD R l.prog w mg base 6 "_law_one" 2 m__law_one := ok__law_one T F__law_one (PySem.W.mg_of X G a__law_one) bi__law_one h_broken h_bounds h_how_many h_number_of h_row_at h_may h_sure h_clash h_is_clash h_left_out h_first_row h_mended h_least_cost h__law_one_b
  have h__law_told : FnD R l.prog w mg base 7 "_law_told" 2 m__law_told := ok__law_told T F__law_told (PySem.W.mg_of X G a__law_told) bi__law_told h__law_one h__law_refusal
  have h_law : FnD R l.prog w mg base 8 "law" 1 m_law := ok_law T F_law (PySem.W.mg_of X G a_law) bi_law h__law_draw h__law_pick h__law_told
  obtain ⟨f', fd', ps', h1, h2, h3, h4, h5⟩ := h_law.ex
  exact law_end (R := R) (ok_lawF T F_law h__law_draw h__law_pick h__law_told) law_true
end K91
open PySem PySem.W PyProof.Rows in
set_option maxRecDepth 100000 in
set_option maxHeartbeats 0 in
theorem PySem.Challenge.cw_windowback_k91_whole_two_at_once_holds : PySem.Challenge.rw_windowback_k91_whole_two_at_once.Holds := by
  w_on; o_law; k_head; (case hw => w_witness2)
  k_fill
  refine L2.walk_of (l := PySem.Challenge.rw_windowback_k91_whole_two_at_once) (n := 63) (k := 8) (x := "script") (CX := fun w => L2.CX PySem.Challenge.rw_windowback_k91_whole_two_at_once.prog w) (sp := fun w => WB.spLaw _) rfl (by decide) rfl ⟨rfl, by decide, by decide⟩ (fun w h Y => PySem.W.kIn_of Y) ?F (fun _ _ a ns hl _ hS => ⟨a, ns, rfl, hS, hl, fun _ => rfl⟩) (fun _ _ _ _ _ h => WB.cx_false h)
  case F =>
    intro w mg fa h KX G hmg
    refine' K91.all_mk KX G hmg ?a_look_sizes ?l_look_sizes ?c_look_sizes ?k_look_sizes ?a_look_row ?l_look_row ?c_look_row ?k_look_row ?a_is_fact ?l_is_fact ?c_is_fact ?k_is_fact ?a_look_told ?l_look_told ?c_look_told ?k_look_told ?a_worth_of ?l_worth_of ?c_worth_of ?k_worth_of ?a_is_row_of ?l_is_row_of ?c_is_row_of ?k_is_row_of ?a_broken ?l_broken ?c_broken ?k_broken ?a_bounds ?l_bounds ?c_bounds ?k_bounds ?a_how_many ?l_how_many ?c_how_many ?k_how_many ?a_row_at ?l_row_at ?c_row_at ?k_row_at ?a_number_of ?l_number_of ?c_number_of ?k_number_of ?a_may ?l_may ?c_may ?k_may ?a_sure ?l_sure ?c_sure ?k_sure ?a_clash ?l_clash ?c_clash ?k_clash ?a_is_clash ?l_is_clash ?c_is_clash ?k_is_clash ?a_left_out ?l_left_out ?c_left_out ?k_left_out ?a_least_cost ?l_least_cost ?c_least_cost ?k_least_cost ?a_mended ?l_mended ?c_mended ?k_mended ?a_first_row ?l_first_row ?c_first_row ?k_first_row ?a_look_fact ?l_look_fact ?c_look_fact ?k_look_fact ?a_worths ?l_worths ?c_worths ?k_worths ?a_follows ?l_follows ?c_follows ?k_follows ?a_parting ?l_parting ?c_parting ?k_parting ?a_needless ?l_needless ?c_needless ?k_needless ?a_lessened ?l_lessened ?c_lessened ?k_lessened ?a_are_alike ?l_are_alike ?c_are_alike ?k_are_alike ?a_first_apart ?l_first_apart ?c_first_apart ?k_first_apart ?a_written ?l_written ?c_written ?k_written ?a__law_cell ?l__law_cell ?c__law_cell ?k__law_cell ?a__law_mix ?l__law_mix ?c__law_mix ?k__law_mix ?a__law_draw ?l__law_draw ?c__law_draw ?k__law_draw ?a__law_pick ?l__law_pick ?c__law_pick ?k__law_pick ?a__law_refusal ?l__law_refusal ?c__law_refusal ?k__law_refusal ?a__law_one_b ?l__law_one_b ?c__law_one_b ?k__law_one_b ?a__law_one ?l__law_one ?c__law_one ?k__law_one ?a__law_told ?l__law_told ?c__law_told ?k__law_told ?a_law ?l_law ?c_law ?k_law ?z_ValueError ?z_all ?z_isinstance ?z_len ?z_list ?z_max ?z_min ?z_range ?z_MOST_SIZE ?z_MOST_WORTH ?z_MOST_TOLD ?z_WORDS ?y_WORDS ?g_BackError ?q_BackError ?kp_BackError ?sb_BackError ?ty_BackError ?ga_BackError ?gg_BackError ?hd_BackError ?cl_BackError ?mo_BackError ?sB_BackError ?g_BadRow ?q_BadRow ?kp_BadRow ?sb_BadRow ?ty_BadRow ?ga_BadRow ?gg_BadRow ?hd_BadRow ?cl_BadRow ?mo_BadRow ?sB_BadRow ?g_BadStretch ?q_BadStretch ?kp_BadStretch ?sb_BadStretch ?ty_BadStretch ?ga_BadStretch ?gg_BadStretch ?hd_BadStretch ?cl_BadStretch ?mo_BadStretch ?sB_BadStretch ?g_BadSize ?q_BadSize ?kp_BadSize ?sb_BadSize ?ty_BadSize ?ga_BadSize ?gg_BadSize ?hd_BadSize ?cl_BadSize ?mo_BadSize ?sB_BadSize ?g_BadTold ?q_BadTold ?kp_BadTold ?sb_BadTold ?ty_BadTold ?ga_BadTold ?gg_BadTold ?hd_BadTold ?cl_BadTold ?mo_BadTold ?sB_BadTold ?g_NoRow ?q_NoRow ?kp_NoRow ?sb_NoRow ?ty_NoRow ?ga_NoRow ?gg_NoRow ?hd_NoRow ?cl_NoRow ?mo_NoRow ?sB_NoRow ?g_BadNumber ?q_BadNumber ?kp_BadNumber ?sb_BadNumber ?ty_BadNumber ?ga_BadNumber ?gg_BadNumber ?hd_BadNumber ?cl_BadNumber ?mo_BadNumber ?sB_BadNumber ?g_BadText ?q_BadText ?kp_BadText ?sb_BadText ?ty_BadText ?ga_BadText ?gg_BadText ?hd_BadText ?cl_BadText ?mo_BadText ?sB_BadText ?cn ?ct ?i_BadNumber_BackError ?i_BadNumber_BadRow ?i_BadNumber_BadStretch ?i_BadNumber_BadSize ?i_BadNumber_BadTold ?i_BadNumber_NoRow ?i_BadNumber_BadNumber ?i_BadNumber_BadText ?i_BadRow_BackError ?i_BadRow_BadRow ?i_BadRow_BadStretch ?i_BadRow_BadSize ?i_BadRow_BadTold ?i_BadRow_NoRow ?i_BadRow_BadNumber ?i_BadRow_BadText ?i_BadSize_BackError ?i_BadSize_BadRow ?i_BadSize_BadStretch ?i_BadSize_BadSize ?i_BadSize_BadTold ?i_BadSize_NoRow ?i_BadSize_BadNumber ?i_BadSize_BadText ?i_BadStretch_BackError ?i_BadStretch_BadRow ?i_BadStretch_BadStretch ?i_BadStretch_BadSize ?i_BadStretch_BadTold ?i_BadStretch_NoRow ?i_BadStretch_BadNumber ?i_BadStretch_BadText ?i_BadText_BackError ?i_BadText_BadRow ?i_BadText_BadStretch ?i_BadText_BadSize ?i_BadText_BadTold ?i_BadText_NoRow ?i_BadText_BadNumber ?i_BadText_BadText ?i_BadTold_BackError ?i_BadTold_BadRow ?i_BadTold_BadStretch ?i_BadTold_BadSize ?i_BadTold_BadTold ?i_BadTold_NoRow ?i_BadTold_BadNumber ?i_BadTold_BadText ?i_NoRow_BackError ?i_NoRow_BadRow ?i_NoRow_BadStretch ?i_NoRow_BadSize ?i_NoRow_BadTold ?i_NoRow_NoRow ?i_NoRow_BadNumber ?i_NoRow_BadText ?i_ValueError_BackError ?i_ValueError_BadRow ?i_ValueError_BadStretch ?i_ValueError_BadSize ?i_ValueError_BadTold ?i_ValueError_NoRow ?i_ValueError_BadNumber ?i_ValueError_BadText
    (case a_look_sizes => k_is)
    (case l_look_sizes => k_is)
    (case c_look_sizes => k_is)
    (case k_look_sizes => k_is)
    (case a_look_row => k_is)
    (case l_look_row => k_is)
    (case c_look_row => k_is)
    (case k_look_row => k_is)
    (case a_is_fact => k_is)
    (case l_is_fact => k_is)
    (case c_is_fact => k_is)
    (case k_is_fact => k_is)
    (case a_look_told => k_is)
    (case l_look_told => k_is)
    (case c_look_told => k_is)
    (case k_look_told => k_is)
    (case a_worth_of => k_is)
    (case l_worth_of => k_is)
    (case c_worth_of => k_is)
    (case k_worth_of => k_is)
    (case a_is_row_of => k_is)
    (case l_is_row_of => k_is)
    (case c_is_row_of => k_is)
    (case k_is_row_of => k_is)
    (case a_broken => k_is)
    (case l_broken => k_is)
    (case c_broken => k_is)
    (case k_broken => k_is)
    (case a_bounds => k_is)
    (case l_bounds => k_is)
    (case c_bounds => k_is)
    (case k_bounds => k_is)
    (case a_how_many => k_is)
    (case l_how_many => k_is)
    (case c_how_many => k_is)
    (case k_how_many => k_is)
    (case a_row_at => k_is)
    (case l_row_at => k_is)
    (case c_row_at => k_is)
    (case k_row_at => k_is)
    (case a_number_of => k_is)
    (case l_number_of => k_is)
    (case c_number_of => k_is)
    (case k_number_of => k_is)
    (case a_may => k_is)
    (case l_may => k_is)
    (case c_may => k_is)
    (case k_may => k_is)
    (case a_sure => k_is)
    (case l_sure => k_is)
    (case c_sure => k_is)
    (case k_sure => k_is)
    (case a_clash => k_is)
    (case l_clash => k_is)
    (case c_clash => k_is)
    (case k_clash => k_is)
    (case a_is_clash => k_is)
    (case l_is_clash => k_is)
    (case c_is_clash => k_is)
    (case k_is_clash => k_is)
    (case a_left_out => k_is)
    (case l_left_out => k_is)
    (case c_left_out => k_is)
    (case k_left_out => k_is)
    (case a_least_cost => k_is)
    (case l_least_cost => k_is)
    (case c_least_cost => k_is)
    (case k_least_cost => k_is)
    (case a_mended => k_is)
    (case l_mended => k_is)
    (case c_mended => k_is)
    (case k_mended => k_is)
    (case a_first_row => k_is)
    (case l_first_row => k_is)
    (case c_first_row => k_is)
    (case k_first_row => k_is)
    (case a_look_fact => k_is)
    (case l_look_fact => k_is)
    (case c_look_fact => k_is)
    (case k_look_fact => k_is)
    (case a_worths => k_is)
    (case l_worths => k_is)
    (case c_worths => k_is)
    (case k_worths => k_is)
    (case a_follows => k_is)
    (case l_follows => k_is)
    (case c_follows => k_is)
    (case k_follows => k_is)
    (case a_parting => k_is)
    (case l_parting => k_is)
    (case c_parting => k_is)
    (case k_parting => k_is)
    (case a_needless => k_is)
    (case l_needless => k_is)
    (case c_needless => k_is)
    (case k_needless => k_is)
    (case a_lessened => k_is)
    (case l_lessened => k_is)
    (case c_lessened => k_is)
    (case k_lessened => k_is)
    (case a_are_alike => k_is)
    (case l_are_alike => k_is)
    (case c_are_alike => k_is)
    (case k_are_alike => k_is)
    (case a_first_apart => k_is)
    (case l_first_apart => k_is)
    (case c_first_apart => k_is)
    (case k_first_apart => k_is)
    (case a_written => k_is)
    (case l_written => k_is)
    (case c_written => k_is)
    (case k_written => k_is)
    (case a__law_cell => k_is)
    (case l__law_cell => k_is)
    (case c__law_cell => k_is)
    (case k__law_cell => k_is)
    (case a__law_mix => k_is)
    (case l__law_mix => k_is)
    (case c__law_mix => k_is)
    (case k__law_mix => k_is)
    (case a__law_draw => k_is)
    (case l__law_draw => k_is)
    (case c__law_draw => k_is)
    (case k__law_draw => k_is)
    (case a__law_pick => k_is)
    (case l__law_pick => k_is)
    (case c__law_pick => k_is)
    (case k__law_pick => k_is)
    (case a__law_refusal => k_is)
    (case l__law_refusal => k_is)
    (case c__law_refusal => k_is)
    (case k__law_refusal => k_is)
    (case a__law_one_b => k_is)
    (case l__law_one_b => k_is)
    (case c__law_one_b => k_is)
    (case k__law_one_b => k_is)
    (case a__law_one => k_is)
    (case l__law_one => k_is)
    (case c__law_one => k_is)
    (case k__law_one => k_is)
    (case a__law_told => k_is)
    (case l__law_told => k_is)
    (case c__law_told => k_is)
    (case k__law_told => k_is)
    (case a_law => k_is)
    (case l_law => k_is)
    (case c_law => k_is)
    (case k_law => k_is)
    (case z_ValueError => k_is)
    (case z_all => k_is)
    (case z_isinstance => k_is)
    (case z_len => k_is)
    (case z_list => k_is)
    (case z_max => k_is)
    (case z_min => k_is)
    (case z_range => k_is)
    (case z_MOST_SIZE => k_is)
    (case z_MOST_WORTH => k_is)
    (case z_MOST_TOLD => k_is)
    (case z_WORDS => k_is)
    (case y_WORDS => k_is)
    (case g_BackError => k_is)
    (case kp_BackError => k_is)
    (case sb_BackError => k_is)
    (case ty_BackError => k_is)
    (case ga_BackError => k_is)
    (case gg_BackError => k_is)
    (case hd_BackError => k_is)
    (case cl_BackError => k_is)
    (case mo_BackError => k_is)
    (case sB_BackError => k_is)
    (case g_BadRow => k_is)
    (case kp_BadRow => k_is)
    (case sb_BadRow => k_is)
    (case ty_BadRow => k_is)
    (case ga_BadRow => k_is)
    (case gg_BadRow => k_is)
    (case hd_BadRow => k_is)
    (case cl_BadRow => k_is)
    (case mo_BadRow => k_is)
    (case sB_BadRow => k_is)
    (case g_BadStretch => k_is)
    (case kp_BadStretch => k_is)
    (case sb_BadStretch => k_is)
    (case ty_BadStretch => k_is)
    (case ga_BadStretch => k_is)
    (case gg_BadStretch => k_is)
    (case hd_BadStretch => k_is)
    (case cl_BadStretch => k_is)
    (case mo_BadStretch => k_is)
    (case sB_BadStretch => k_is)
    (case g_BadSize => k_is)
    (case kp_BadSize => k_is)
    (case sb_BadSize => k_is)
    (case ty_BadSize => k_is)
    (case ga_BadSize => k_is)
    (case gg_BadSize => k_is)
    (case hd_BadSize => k_is)
    (case cl_BadSize => k_is)
    (case mo_BadSize => k_is)
    (case sB_BadSize => k_is)
    (case g_BadTold => k_is)
    (case kp_BadTold => k_is)
    (case sb_BadTold => k_is)
    (case ty_BadTold => k_is)
    (case ga_BadTold => k_is)
    (case gg_BadTold => k_is)
    (case hd_BadTold => k_is)
    (case cl_BadTold => k_is)
    (case mo_BadTold => k_is)
    (case sB_BadTold => k_is)
    (case g_NoRow => k_is)
    (case kp_NoRow => k_is)
    (case sb_NoRow => k_is)
    (case ty_NoRow => k_is)
    (case ga_NoRow => k_is)
    (case gg_NoRow => k_is)
    (case hd_NoRow => k_is)
    (case cl_NoRow => k_is)
    (case mo_NoRow => k_is)
    (case sB_NoRow => k_is)
    (case g_BadNumber => k_is)
    (case kp_BadNumber => k_is)
    (case sb_BadNumber => k_is)
    (case ty_BadNumber => k_is)
    (case ga_BadNumber => k_is)
    (case gg_BadNumber => k_is)
    (case hd_BadNumber => k_is)
    (case cl_BadNumber => k_is)
    (case mo_BadNumber => k_is)
    (case sB_BadNumber => k_is)
    (case g_BadText => k_is)
    (case kp_BadText => k_is)
    (case sb_BadText => k_is)
    (case ty_BadText => k_is)
    (case ga_BadText => k_is)
    (case gg_BadText => k_is)
    (case hd_BadText => k_is)
    (case cl_BadText => k_is)
    (case mo_BadText => k_is)
    (case sB_BadText => k_is)
    (case cn => k_is)
    (case ct => k_is)
    (case i_BadNumber_BackError => kit_is)
    (case i_BadNumber_BadRow => kit_is)
    (case i_BadNumber_BadStretch => kit_is)
    (case i_BadNumber_BadSize => kit_is)
    (case i_BadNumber_BadTold => kit_is)
    (case i_BadNumber_NoRow => kit_is)
    (case i_BadNumber_BadNumber => kit_is)
    (case i_BadNumber_BadText => kit_is)
    (case i_BadRow_BackError => kit_is)
    (case i_BadRow_BadRow => kit_is)
    (case i_BadRow_BadStretch => kit_is)
    (case i_BadRow_BadSize => kit_is)
    (case i_BadRow_BadTold => kit_is)
    (case i_BadRow_NoRow => kit_is)
    (case i_BadRow_BadNumber => kit_is)
    (case i_BadRow_BadText => kit_is)
    (case i_BadSize_BackError => kit_is)
    (case i_BadSize_BadRow => kit_is)
    (case i_BadSize_BadStretch => kit_is)
    (case i_BadSize_BadSize => kit_is)
    (case i_BadSize_BadTold => kit_is)
    (case i_BadSize_NoRow => kit_is)
    (case i_BadSize_BadNumber => kit_is)
    (case i_BadSize_BadText => kit_is)
    (case i_BadStretch_BackError => kit_is)
    (case i_BadStretch_BadRow => kit_is)
    (case i_BadStretch_BadStretch => kit_is)
    (case i_BadStretch_BadSize => kit_is)
    (case i_BadStretch_BadTold => kit_is)
    (case i_BadStretch_NoRow => kit_is)
    (case i_BadStretch_BadNumber => kit_is)
    (case i_BadStretch_BadText => kit_is)
    (case i_BadText_BackError => kit_is)
    (case i_BadText_BadRow => kit_is)
    (case i_BadText_BadStretch => kit_is)
    (case i_BadText_BadSize => kit_is)
    (case i_BadText_BadTold => kit_is)
    (case i_BadText_NoRow => kit_is)
    (case i_BadText_BadNumber => kit_is)
    (case i_BadText_BadText => kit_is)
    (case i_BadTold_BackError => kit_is)
    (case i_BadTold_BadRow => kit_is)
    (case i_BadTold_BadStretch => kit_is)
    (case i_BadTold_BadSize => kit_is)
    (case i_BadTold_BadTold => kit_is)
    (case i_BadTold_NoRow => kit_is)
    (case i_BadTold_BadNumber => kit_is)
    (case i_BadTold_BadText => kit_is)
    (case i_NoRow_BackError => kit_is)
    (case i_NoRow_BadRow => kit_is)
    (case i_NoRow_BadStretch => kit_is)
    (case i_NoRow_BadSize => kit_is)
    (case i_NoRow_BadTold => kit_is)
    (case i_NoRow_NoRow => kit_is)
    (case i_NoRow_BadNumber => kit_is)
    (case i_NoRow_BadText => kit_is)
    (case i_ValueError_BackError => kit_is)
    (case i_ValueError_BadRow => kit_is)
    (case i_ValueError_BadStretch => kit_is)
    (case i_ValueError_BadSize => kit_is)
    (case i_ValueError_BadTold => kit_is)
    (case i_ValueError_NoRow => kit_is)
    (case i_ValueError_BadNumber => kit_is)
    (case i_ValueError_BadText => kit_is)
    (case q_BackError => k_exc)
    (case q_BadRow => k_exc)
    (case q_BadStretch => k_exc)
    (case q_BadSize => k_exc)
    (case q_BadTold => k_exc)
    (case q_NoRow => k_exc)
    (case q_BadNumber => k_exc)
    (case q_BadText => k_exc)
