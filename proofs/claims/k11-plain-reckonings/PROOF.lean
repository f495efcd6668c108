import PyProof.Rows.All
import Wide.All
import OpenK.AllK
import Wide.FinOn
import HandS.ForMost
import HandS.ForExc
import HandS.Deep
import HandS.Zip
import HandS.SortInts
import HandS.SetFor
import HandS.IsInst
import HandS.ExcIs
import HandS.HotCalls
import HandS.TupAny
import HandS.Conv
import HandS.More
import PySem.Challenge.RW_veilsum_k11_plain_reckonings
set_option Elab.async false
set_option linter.all false
set_option maxRecDepth 100000
set_option maxHeartbeats 4000000
/-! VL: a layer of values over the hand layer: what a piece of the text computes, as a plain function over deep data. -/
namespace VL
open PySem PySem.Spec PyProof.Rows L2

/-! ### data, owned trees, slots -/
/-- what never changes any more: data, an instance of the text's own, the script -/
inductive FV where
  | d (p : PyData)
  | ob (c : Str) (fs : List (Str × PyData))
  | sc (ns : List Int)
/-- a tree of what one name alone holds -/
inductive SV where
  | f (x : FV)
  | own (xs : List SV)
  | otup (xs : List SV)
  | obj (c : Str) (fs : List (Str × SV))
/-- a name's slot: nothing known, a value, an argument handed by reference, a view of what may still change -/
inductive Slot where
  | no
  | va (s : SV)
  | rf (s : SV)
  | vw (s : SV)
abbrev Env := List Slot

inductive Res (α : Type) where
  | ok (a : α)
  | err (c : Str)
  | bad
def Res.bind {α β : Type} : Res α → (α → Res β) → Res β
  | .ok a, k => k a
  | .err c, _ => .err c
  | .bad, _ => .bad
inductive Out (α : Type) where
  | ok (a : α) (e : Env)
  | err (c : Str)
  | bad
inductive Flow where
  | nx (e : Env)
  | rt (v : SV) (e : Env)
  | err (c : Str) (e : Env)
  | bad

/-! ### what a value is -/
mutual
inductive Dq (K : PySem.W.Frag) (G : Hp) : V → PyData → Prop
  | non : Dq K G .non .none
  | bl (b : Bool) : Dq K G (.bl b) (.bool b)
  | int (i : Int) : Dq K G (.int i) (.int i)
  | str (x : Str) : Dq K G (.str x) (.str x)
  | lst {a : Addr} {xs : List V} {ds : List PyData} : G a = some (.lst xs) → Dqs K G xs ds → Dq K G (.ref a) (.list ds)
  | tup {a : Addr} {xs : List V} {ds : List PyData} : SqT K G a xs → Dqs K G xs ds → Dq K G (.ref a) (.tuple ds)
inductive Dqs (K : PySem.W.Frag) (G : Hp) : List V → List PyData → Prop
  | nil : Dqs K G [] []
  | cons {v : V} {vs : List V} {d : PyData} {ds : List PyData} : Dq K G v d → Dqs K G vs ds → Dqs K G (v :: vs) (d :: ds)
end
inductive Dqf (K : PySem.W.Frag) (G : Hp) : List (Str × V) → List (Str × PyData) → Prop
  | nil : Dqf K G [] []
  | cons {n : Str} {v : V} {vs : List (Str × V)} {d : PyData} {ds : List (Str × PyData)} : Dq K G v d → Dqf K G vs ds → Dqf K G ((n, v) :: vs) ((n, d) :: ds)
inductive Fq (K : PySem.W.Frag) (mg : Str → Option Value) (G : Hp) : V → FV → Prop
  | d {v : V} {p : PyData} : Dq K G v p → Fq K mg G v (.d p)
  | ob {a C dx : Addr} {c : Str} {vs : List (Str × V)} {fs : List (Str × PyData)} : mg c = some (.ref C) → G a = some (.ins C dx vs) → Dqf K G vs fs → Fq K mg G (.ref a) (.ob c fs)
  | sc {a : Addr} {ns : List Int} : SqL K G a (ns.map V.int) → Fq K mg G (.ref a) (.sc ns)
mutual
inductive Ow (K : PySem.W.Frag) (mg : Str → Option Value) (G H : Hp) : V → SV → List Addr → Prop
  | f {v : V} {x : FV} : Fq K mg G v x → Ow K mg G H v (.f x) []
  | own {a : Addr} {vs : List V} {xs : List SV} {r : List Addr} : H a = some (.lst vs) → Ows K mg G H vs xs r → Ow K mg G H (.ref a) (.own xs) (a :: r)
  | otup {a : Addr} {vs : List V} {xs : List SV} {r : List Addr} : H a = some (.tup vs) → Ows K mg G H vs xs r → Ow K mg G H (.ref a) (.otup xs) (a :: r)
  | obj {a C dx : Addr} {c : Str} {vs : List (Str × V)} {fs : List (Str × SV)} {r : List Addr} : mg c = some (.ref C) → H a = some (.ins C dx vs) → Owf K mg G H vs fs r → Ow K mg G H (.ref a) (.obj c fs) (a :: r)
inductive Ows (K : PySem.W.Frag) (mg : Str → Option Value) (G H : Hp) : List V → List SV → List Addr → Prop
  | nil : Ows K mg G H [] [] []
  | cons {v : V} {vs : List V} {x : SV} {xs : List SV} {r rs : List Addr} : Ow K mg G H v x r → Ows K mg G H vs xs rs → Ows K mg G H (v :: vs) (x :: xs) (r ++ rs)
inductive Owf (K : PySem.W.Frag) (mg : Str → Option Value) (G H : Hp) : List (Str × V) → List (Str × SV) → List Addr → Prop
  | nil : Owf K mg G H [] [] []
  | cons {n : Str} {v : V} {vs : List (Str × V)} {x : SV} {xs : List (Str × SV)} {r rs : List Addr} : Ow K mg G H v x r → Owf K mg G H vs xs rs → Owf K mg G H ((n, v) :: vs) ((n, x) :: xs) (r ++ rs)
end

section
variable {K : PySem.W.Frag} {mg : Str → Option Value} {G G' H H' : Hp}
theorem sqt_mono {a : Addr} {xs : List V} (e : Same G G') (h : SqT K G a xs) : SqT K G' a xs := by
  rcases h with (h | ⟨o, h⟩) | h
  · exact .inl (.inl (e _ _ h))
  · exact .inl (.inr ⟨o, e _ _ h⟩)
  · exact .inr h
mutual
theorem Dq.mono (e : Same G G') : ∀ {v : V} {p : PyData}, Dq K G v p → Dq K G' v p
  | _, _, .non => .non
  | _, _, .bl b => .bl b
  | _, _, .int i => .int i
  | _, _, .str x => .str x
  | _, _, .lst h t => .lst (e _ _ h) (Dqs.mono e t)
  | _, _, .tup h t => .tup (sqt_mono e h) (Dqs.mono e t)
theorem Dqs.mono (e : Same G G') : ∀ {v : List V} {p : List PyData}, Dqs K G v p → Dqs K G' v p
  | _, _, .nil => .nil
  | _, _, .cons h t => .cons (Dq.mono e h) (Dqs.mono e t)
end
theorem Dqf.mono (e : Same G G') {v : List (Str × V)} {p : List (Str × PyData)} (h : Dqf K G v p) : Dqf K G' v p := by
  induction h with
  | nil => exact .nil
  | cons h t ih => exact .cons (h.mono e) ih
theorem Fq.mono (e : Same G G') {v : V} {x : FV} (h : Fq K mg G v x) : Fq K mg G' v x := by
  cases h with
  | d h => exact .d (h.mono e)
  | ob m h t => exact .ob m (e _ _ h) (t.mono e)
  | sc h => exact .sc (e.seq h)
mutual
theorem Dq.dp : ∀ {v : V} {p : PyData}, Dq K G v p → Dp K G v p
  | _, _, .non => .non
  | _, _, .bl b => .bl b
  | _, _, .int i => .int i
  | _, _, .str x => .str x
  | _, _, .lst h t => .lst (.inl (.inl h)) (Dqs.dp t)
  | _, _, .tup h t => .tup h (Dqs.dp t)
theorem Dqs.dp : ∀ {v : List V} {p : List PyData}, Dqs K G v p → DpAll K G v p
  | _, _, .nil => .nil
  | _, _, .cons h t => .cons (Dq.dp h) (Dqs.dp t)
end
/-- what may be read as data, the list itself in the heap as it now stands -/
inductive Dr (K : PySem.W.Frag) (G H : Hp) : V → PyData → Prop
  | fz {v : V} {p : PyData} : Dq K G v p → Dr K G H v p
  | top {a : Addr} {vs : List V} {ds : List PyData} : H a = some (.lst vs) → Dqs K G vs ds → Dr K G H (.ref a) (.list ds)
theorem Dr.lst {a : V} {ds : List PyData} (s : Same G H) (h : Dr K G H a (.list ds)) : ∃ b vs, a = .ref b ∧ H b = some (.lst vs) ∧ Dqs K G vs ds := by
  cases h with
  | fz h => cases h with
    | lst h t => exact ⟨_, _, rfl, s _ _ h, t⟩
  | top h t => exact ⟨_, _, rfl, h, t⟩
theorem Dr.dp {v : V} {p : PyData} (s : Same G H) (h : Dr K G H v p) : Dp K H v p := by
  cases h with
  | fz h => exact (h.mono s).dp
  | top h t => exact .lst (.inl (.inl h)) (t.mono s).dp
theorem Dr.mono {v : V} {p : PyData} (g : Same G G') (e : Same H H') (h : Dr K G H v p) : Dr K G' H' v p := by
  cases h with
  | fz h => exact .fz (h.mono g)
  | top h t => exact .top (e _ _ h) (t.mono g)
theorem Dqs.length {vs : List V} {ds : List PyData} (h : Dqs K G vs ds) : vs.length = ds.length := by
  induction ds generalizing vs with
  | nil => cases h; rfl
  | cons d ds ih => cases h with | cons h t => simp [ih t]
theorem Dqs.get {vs : List V} {ds : List PyData} {i : Nat} {d : PyData} (h : Dqs K G vs ds) (e : ds[i]? = some d) : ∃ v, vs[i]? = some v ∧ Dq K G v d := by
  induction ds generalizing vs i with
  | nil => simp at e
  | cons x ds ih =>
    cases h with
    | cons h t =>
      cases i with
      | zero => simp at e; subst e; exact ⟨_, rfl, h⟩
      | succ i => simpa using ih t (by simpa using e)
theorem Dqs.append {vs ws : List V} {ds es : List PyData} (h : Dqs K G vs ds) (h' : Dqs K G ws es) : Dqs K G (vs ++ ws) (ds ++ es) := by
  induction ds generalizing vs with
  | nil => cases h; exact h'
  | cons d ds ih => cases h with | cons h t => exact .cons h (ih t)
theorem Dqs.take {vs : List V} {ds : List PyData} (h : Dqs K G vs ds) (n : Nat) : Dqs K G (vs.take n) (ds.take n) := by
  induction ds generalizing vs n with
  | nil => cases h; simp; exact .nil
  | cons d ds ih =>
    cases h with
    | cons h t =>
      cases n with
      | zero => exact .nil
      | succ n => exact .cons h (ih t n)
theorem Dqs.drop {vs : List V} {ds : List PyData} (h : Dqs K G vs ds) (n : Nat) : Dqs K G (vs.drop n) (ds.drop n) := by
  induction ds generalizing vs n with
  | nil => cases h; simp; exact .nil
  | cons d ds ih =>
    cases h with
    | cons h t =>
      cases n with
      | zero => exact .cons h t
      | succ n => exact ih t n
theorem Dqs.ints {vs : List V} {ns : List Int} (h : Dqs K G vs (ns.map PyData.int)) : vs = ns.map V.int := by
  induction ns generalizing vs with
  | nil => cases h; rfl
  | cons n ns ih => cases h with | cons h t => cases h; simp [ih t]
theorem Dqs.bools {vs : List V} {ns : List Bool} (h : Dqs K G vs (ns.map PyData.bool)) : vs = ns.map V.bl := by
  induction ns generalizing vs with
  | nil => cases h; rfl
  | cons n ns ih => cases h with | cons h t => cases h; simp [ih t]
theorem Dqs.of_ints (ns : List Int) : Dqs K G (ns.map V.int) (ns.map PyData.int) := by
  induction ns with
  | nil => exact .nil
  | cons n ns ih => exact .cons (.int n) ih

/-! ### owned trees: the frame -/
mutual
theorem Ow.mono (g : Same G G') : ∀ {v : V} {x : SV} {r : List Addr}, Ow K mg G H v x r → (∀ a ∈ r, H' a = H a) → Ow K mg G' H' v x r
  | _, _, _, .f h, _ => .f (h.mono g)
  | _, _, _, .own h t, e => .own ((e _ List.mem_cons_self).trans h) (Ows.mono g t fun a m => e a (List.mem_cons_of_mem _ m))
  | _, _, _, .otup h t, e => .otup ((e _ List.mem_cons_self).trans h) (Ows.mono g t fun a m => e a (List.mem_cons_of_mem _ m))
  | _, _, _, .obj m h t, e => .obj m ((e _ List.mem_cons_self).trans h) (Owf.mono g t fun a m => e a (List.mem_cons_of_mem _ m))
theorem Ows.mono (g : Same G G') : ∀ {v : List V} {x : List SV} {r : List Addr}, Ows K mg G H v x r → (∀ a ∈ r, H' a = H a) → Ows K mg G' H' v x r
  | _, _, _, .nil, _ => .nil
  | _, _, _, .cons h t, e => .cons (Ow.mono g h fun a m => e a (List.mem_append_left _ m)) (Ows.mono g t fun a m => e a (List.mem_append_right _ m))
theorem Owf.mono (g : Same G G') : ∀ {v : List (Str × V)} {x : List (Str × SV)} {r : List Addr}, Owf K mg G H v x r → (∀ a ∈ r, H' a = H a) → Owf K mg G' H' v x r
  | _, _, _, .nil, _ => .nil
  | _, _, _, .cons h t, e => .cons (Ow.mono g h fun a m => e a (List.mem_append_left _ m)) (Owf.mono g t fun a m => e a (List.mem_append_right _ m))
end
mutual
theorem Ow.there : ∀ {v : V} {x : SV} {r : List Addr}, Ow K mg G H v x r → ∀ a ∈ r, ∃ o, H a = some o
  | _, _, _, .f h, _, m => by cases m
  | _, _, _, .own h t, a, m => by
    rcases List.mem_cons.mp m with rfl | m
    · exact ⟨_, h⟩
    · exact Ows.there t a m
  | _, _, _, .otup h t, a, m => by
    rcases List.mem_cons.mp m with rfl | m
    · exact ⟨_, h⟩
    · exact Ows.there t a m
  | _, _, _, .obj _ h t, a, m => by
    rcases List.mem_cons.mp m with rfl | m
    · exact ⟨_, h⟩
    · exact Owf.there t a m
theorem Ows.there : ∀ {v : List V} {x : List SV} {r : List Addr}, Ows K mg G H v x r → ∀ a ∈ r, ∃ o, H a = some o
  | _, _, _, .nil, _, m => by cases m
  | _, _, _, .cons h t, a, m => by
    rcases List.mem_append.mp m with m | m
    · exact Ow.there h a m
    · exact Ows.there t a m
theorem Owf.there : ∀ {v : List (Str × V)} {x : List (Str × SV)} {r : List Addr}, Owf K mg G H v x r → ∀ a ∈ r, ∃ o, H a = some o
  | _, _, _, .nil, _, m => by cases m
  | _, _, _, .cons h t, a, m => by
    rcases List.mem_append.mp m with m | m
    · exact Ow.there h a m
    · exact Owf.there t a m
end
theorem Ow.same {v : V} {x : SV} {r : List Addr} (g : Same G G') (e : Same H H') (h : Ow K mg G H v x r) : Ow K mg G' H' v x r :=
  h.mono g fun a m => by
    obtain ⟨o, q⟩ := h.there a m
    rw [q]; exact e a o q

/-! ### frozen trees -/
mutual
/-- a tree's data, where it is data -/
def SV.frz : SV → Option PyData
  | .f (.d p) => some p
  | .f _ => none
  | .own xs => (SV.frzs xs).map .list
  | .otup xs => (SV.frzs xs).map .tuple
  | .obj _ _ => none
def SV.frzs : List SV → Option (List PyData)
  | [] => some []
  | x :: xs => match SV.frz x, SV.frzs xs with
    | some p, some ps => some (p :: ps)
    | _, _ => none
end
def SV.frzf : List (Str × SV) → Option (List (Str × PyData))
  | [] => some []
  | (n, x) :: xs => match SV.frz x, SV.frzf xs with
    | some p, some ps => some ((n, p) :: ps)
    | _, _ => none
def SV.frz? : SV → Option FV
  | .f x => some x
  | .own xs => (SV.frzs xs).map fun ps => .d (.list ps)
  | .otup xs => (SV.frzs xs).map fun ps => .d (.tuple ps)
  | .obj c fs => (SV.frzf fs).map fun ps => .ob c ps
end
end VL

set_option Elab.async false
set_option linter.all false
set_option maxRecDepth 100000
set_option maxHeartbeats 4000000
namespace VL
open PySem PySem.Spec PyProof.Rows L2
section
variable {K : PySem.W.Frag} {mg : Str → Option Value} {G G' H H' : Hp}
mutual
theorem Ow.frozen (g : Same G G') : ∀ {v : V} {x : SV} {r : List Addr} {p : PyData}, Ow K mg G H v x r → (∀ a ∈ r, ∀ o, H a = some o → G' a = some o) → SV.frz x = some p → Dq K G' v p
  | _, _, _, _, .f (.d h), _, q => by
    cases (show some _ = some _ from q)
    exact h.mono g
  | _, _, _, _, .f (.ob _ _ _), _, q => by cases (show none = some _ from q)
  | _, _, _, _, .f (.sc _), _, q => by cases (show none = some _ from q)
  | _, .own xs, _, _, .own h t, e, q => by
    have q' : (SV.frzs xs).map PyData.list = some _ := q
    cases z : SV.frzs xs with
    | none => rw [z] at q'; cases q'
    | some ps =>
      rw [z] at q'
      cases q'
      exact .lst (e _ List.mem_cons_self _ h) (Ows.frozen g t (fun a m => e a (List.mem_cons_of_mem _ m)) z)
  | _, .otup xs, _, _, .otup h t, e, q => by
    have q' : (SV.frzs xs).map PyData.tuple = some _ := q
    cases z : SV.frzs xs with
    | none => rw [z] at q'; cases q'
    | some ps =>
      rw [z] at q'
      cases q'
      exact .tup (SqT.of (e _ List.mem_cons_self _ h)) (Ows.frozen g t (fun a m => e a (List.mem_cons_of_mem _ m)) z)
  | _, _, _, _, .obj _ _ _, _, q => by cases (show none = some _ from q)
theorem Ows.frozen (g : Same G G') : ∀ {v : List V} {x : List SV} {r : List Addr} {p : List PyData}, Ows K mg G H v x r → (∀ a ∈ r, ∀ o, H a = some o → G' a = some o) → SV.frzs x = some p → Dqs K G' v p
  | _, _, _, _, .nil, _, q => by
    cases (show some [] = some _ from q)
    exact .nil
  | _, x :: xs, _, _, .cons h t, e, q => by
    unfold SV.frzs at q
    split at q
    · rename_i p ps h1 h2
      cases q
      exact .cons (Ow.frozen g h (fun a m => e a (List.mem_append_left _ m)) h1) (Ows.frozen g t (fun a m => e a (List.mem_append_right _ m)) h2)
    · cases q
end
theorem Owf.frozen (g : Same G G') : ∀ {v : List (Str × V)} {x : List (Str × SV)} {r : List Addr} {p : List (Str × PyData)}, Owf K mg G H v x r → (∀ a ∈ r, ∀ o, H a = some o → G' a = some o) → SV.frzf x = some p → Dqf K G' v p
  | _, _, _, _, .nil, _, q => by
    cases (show some [] = some _ from q)
    exact .nil
  | _, (n, x) :: xs, _, _, .cons h t, e, q => by
    unfold SV.frzf at q
    split at q
    · rename_i p ps h1 h2
      cases q
      exact .cons (h.frozen g (fun a m => e a (List.mem_append_left _ m)) h1) (Owf.frozen g t (fun a m => e a (List.mem_append_right _ m)) h2)
    · cases q
theorem Ow.frozenF (g : Same G G') {v : V} {x : SV} {r : List Addr} {y : FV} (h : Ow K mg G H v x r) (e : ∀ a ∈ r, ∀ o, H a = some o → G' a = some o) (q : SV.frz? x = some y) : Fq K mg G' v y := by
  cases h with
  | f h =>
    cases (show some _ = some _ from q)
    exact h.mono g
  | @own a vs xs r h t =>
    have q' : (SV.frzs xs).map (fun ps => FV.d (PyData.list ps)) = some _ := q
    cases z : SV.frzs xs with
    | none => rw [z] at q'; cases q'
    | some ps =>
      rw [z] at q'
      cases q'
      exact .d (.lst (e _ List.mem_cons_self _ h) (Ows.frozen g t (fun a m => e a (List.mem_cons_of_mem _ m)) z))
  | @otup a vs xs r h t =>
    have q' : (SV.frzs xs).map (fun ps => FV.d (PyData.tuple ps)) = some _ := q
    cases z : SV.frzs xs with
    | none => rw [z] at q'; cases q'
    | some ps =>
      rw [z] at q'
      cases q'
      exact .d (.tup (SqT.of (e _ List.mem_cons_self _ h)) (Ows.frozen g t (fun a m => e a (List.mem_cons_of_mem _ m)) z))
  | @obj a C dx c vs fs r m h t =>
    have q' : (SV.frzf fs).map (fun ps => FV.ob c ps) = some _ := q
    cases z : SV.frzf fs with
    | none => rw [z] at q'; cases q'
    | some ps =>
      rw [z] at q'
      cases q'
      exact .ob m (e _ List.mem_cons_self _ h) (t.frozen g (fun a m => e a (List.mem_cons_of_mem _ m)) z)
/-- the frozen heap grown by what stands at r -/
def gu (G H : Hp) (r : List Addr) : Hp := fun a => if a ∈ r then H a else G a
theorem gu_in {r : List Addr} {a : Addr} (h : a ∈ r) : gu G H r a = H a := by unfold gu; rw [if_pos h]
theorem gu_out {r : List Addr} {a : Addr} (h : a ∉ r) : gu G H r a = G a := by unfold gu; rw [if_neg h]
theorem gu_same {r : List Addr} (s : Same G H) : Same G (gu G H r) := fun a o e => by
  by_cases m : a ∈ r
  · rw [gu_in m]; exact s a o e
  · rw [gu_out m]; exact e
theorem gu_sub {r : List Addr} (s : Same G H) : Same (gu G H r) H := fun a o e => by
  by_cases m : a ∈ r
  · rw [gu_in m] at e; exact e
  · rw [gu_out m] at e; exact s a o e

/-! ### the state -/
def slotOk (K : PySem.W.Frag) (mg : Str → Option Value) (G H : Hp) (pv : V) (o : Option (Option V)) (fp : List Addr) : Slot → Prop
  | .no => fp = []
  | .va s => ∃ v, o = some (some v) ∧ Ow K mg G H v s fp
  | .rf s => o = some (some pv) ∧ Ow K mg G H pv s fp
  | .vw s => fp = [] ∧ ∃ v r, o = some (some v) ∧ Ow K mg G H v s r
structure RS (K : PySem.W.Frag) (mg : Str → Option Value) (G : Hp) (σ : L2.St) (env : Env) (H : Hp) (fp : Nat → List Addr) (pv : Nat → V) : Prop where
  len : env.length = σ.length
  rel : ∀ i s, env[i]? = some s → slotOk K mg G H (pv i) σ[i]? (fp i) s
  nil : ∀ i, env.length ≤ i → fp i = []
  sub : Same G H
  out : ∀ i, ∀ a ∈ fp i, G a = none
  nd : ∀ i, (fp i).Nodup
  dj : ∀ i j a, a ∈ fp i → a ∈ fp j → i = j
/-- what a pure expression does: the frozen heap and the heap grow -/
structure Ext (G H G' H' : Hp) : Prop where
  g : Same G G'
  h : Same H H'
  s : Same G' H'
  n : ∀ a o, G' a = some o → G a = some o ∨ H a = none
theorem Ext.refl (s : Same G H) : Ext G H G H := ⟨Same.refl _, Same.refl _, s, fun _ _ e => .inl e⟩
theorem none_back (e : Same H H') {a : Addr} (h : H' a = none) : H a = none := e.free h
theorem Ext.trans {G2 H2 : Hp} (x : Ext G H G' H') (y : Ext G' H' G2 H2) : Ext G H G2 H2 := ⟨x.g.trans y.g, x.h.trans y.h, y.s, fun a o e => by
  rcases y.n a o e with q | q
  · exact x.n a o q
  · exact .inr (none_back x.h q)⟩
/-- a new object, frozen at once -/
theorem Ext.new {p : Addr} {o : HO} (s : Same G H) (hp : H p = none) : Ext G H (upd G p o) (upd H p o) where
  g := fun a u e => by rw [upd_ne (ne_of_none (s _ _ e) hp)]; exact e
  h := fun a u e => by rw [upd_ne (ne_of_none e hp)]; exact e
  s := fun a u e => by
    by_cases q : a = p
    · subst q; rw [upd_same] at e ⊢; exact e
    · rw [upd_ne q] at e ⊢; exact s _ _ e
  n := fun a u e => by
    by_cases q : a = p
    · subst q; exact .inr hp
    · rw [upd_ne q] at e; exact .inl e
/-- a new object, not frozen -/
theorem Ext.newO {p : Addr} {o : HO} (s : Same G H) (hp : H p = none) : Ext G H G (upd H p o) where
  g := Same.refl _
  h := fun a u e => by rw [upd_ne (ne_of_none e hp)]; exact e
  s := fun a u e => by rw [upd_ne (ne_of_none (s _ _ e) hp)]; exact s _ _ e
  n := fun _ _ e => .inl e
theorem slotOk.mono {pv : V} {o : Option (Option V)} {fp : List Addr} {s : Slot} (g : Same G G') (e : Same H H') (h : slotOk K mg G H pv o fp s) : slotOk K mg G' H' pv o fp s := by
  cases s with
  | no => exact h
  | va s => obtain ⟨v, e1, q⟩ := h; exact ⟨v, e1, q.same g e⟩
  | rf s => obtain ⟨e1, q⟩ := h; exact ⟨e1, q.same g e⟩
  | vw p => obtain ⟨e0, v, r, e1, q⟩ := h; exact ⟨e0, v, r, e1, q.same g e⟩
theorem slotOk.there {pv : V} {o : Option (Option V)} {fp : List Addr} {s : Slot} (h : slotOk K mg G H pv o fp s) : ∀ a ∈ fp, ∃ u, H a = some u := by
  cases s with
  | no => intro a m; rw [show fp = [] from h] at m; cases m
  | va s => obtain ⟨v, e1, q⟩ := h; exact q.there
  | rf s => obtain ⟨e1, q⟩ := h; exact q.there
  | vw p => obtain ⟨e0, v, r, e1, q⟩ := h; intro a m; rw [e0] at m; cases m
variable {σ σ' : L2.St} {env : Env} {fp : Nat → List Addr} {pv : Nat → V}
theorem RS.there (h : RS K mg G σ env H fp pv) (i : Nat) : ∀ a ∈ fp i, ∃ u, H a = some u := by
  intro a m
  by_cases hi : i < env.length
  · exact (h.rel i _ (List.getElem?_eq_getElem hi)).there a m
  · rw [h.nil i (by omega)] at m; cases m
theorem RS.ext (h : RS K mg G σ env H fp pv) (x : Ext G H G' H') : RS K mg G' σ env H' fp pv where
  len := h.len
  rel := fun i s e => (h.rel i s e).mono x.g x.h
  nil := h.nil
  sub := x.s
  out := fun i a m => by
    cases q : G' a with
    | none => rfl
    | some o =>
      rcases x.n a o q with z | z
      · rw [h.out i a m] at z; cases z
      · obtain ⟨u, hu⟩ := h.there i a m
        rw [hu] at z; cases z
  nd := h.nd
  dj := h.dj
theorem RS.same (h : RS K mg G σ env H fp pv) (e : Same H H') : RS K mg G σ env H' fp pv :=
  h.ext ⟨Same.refl _, e, h.sub.trans e, fun _ _ q => .inl q⟩

/-! ### readings -/
/-- what is wanted of an exception of the class called c -/
def ErrW (mg : Str → Option Value) (W : WX) (σ : L2.St) (H : Hp) (c : Str) : Prop := ∀ C H', mg c = some (.ref C) → Same H H' → W (.ref C) none σ H'
def PostR {α : Type} (mg : Str → Option Value) (W : WX) (σ : L2.St) (H : Hp) (k : α → Prop) : Res α → Prop
  | .ok a => k a
  | .err c => ErrW mg W σ H c
  | .bad => False
abbrev FP := Env → Res FV
abbrev FD := Env → Res PyData
abbrev FO := Env → Res SV
abbrev FT := Env → Res Bool
/-- frozen values -/
def tP (K : PySem.W.Frag) (mg : Str → Option Value) (W : WX) (f : FP) : TE := fun σ H Q => ∃ G env fp pv, RS K mg G σ env H fp pv ∧
  PostR mg W σ H (fun x => ∀ v G' H', Ext G H G' H' → Fq K mg G' v x → Q v H') (f env)
/-- data that may be read -/
def tD (K : PySem.W.Frag) (mg : Str → Option Value) (W : WX) (f : FD) : TE := fun σ H Q => ∃ G env fp pv, RS K mg G σ env H fp pv ∧
  PostR mg W σ H (fun x => ∀ v G' H', Ext G H G' H' → Dr K G' H' v x → Q v H') (f env)
/-- new values, owned -/
def tO (K : PySem.W.Frag) (mg : Str → Option Value) (W : WX) (f : FO) : TE := fun σ H Q => ∃ G env fp pv, RS K mg G σ env H fp pv ∧
  PostR mg W σ H (fun x => ∀ v G' H' r, Ext G H G' H' → Ow K mg G' H' v x r → r.Nodup → (∀ a ∈ r, H a = none ∧ G' a = none) → Q v H') (f env)
/-- tests -/
def tT (K : PySem.W.Frag) (mg : Str → Option Value) (W : WX) (f : FT) : TT := fun σ H Q => ∃ G env fp pv, RS K mg G σ env H fp pv ∧
  PostR mg W σ H (fun x => ∀ G' H', Ext G H G' H' → Q x H') (f env)
/-- argument lists -/
def tA (K : PySem.W.Frag) (mg : Str → Option Value) (W : WX) (f : Env → Res (List PyData)) : TA := fun σ H Q => ∃ G env fp pv, RS K mg G σ env H fp pv ∧
  PostR mg W σ H (fun xs => ∀ vs G' H', Ext G H G' H' → Dqs K G' vs xs → Q vs H') (f env)
inductive Fqs (K : PySem.W.Frag) (mg : Str → Option Value) (G : Hp) : List V → List FV → Prop
  | nil : Fqs K mg G [] []
  | cons {v : V} {vs : List V} {x : FV} {xs : List FV} : Fq K mg G v x → Fqs K mg G vs xs → Fqs K mg G (v :: vs) (x :: xs)
theorem Fqs.mono (g : Same G G') {vs : List V} {xs : List FV} (h : Fqs K mg G vs xs) : Fqs K mg G' vs xs := by
  induction h with
  | nil => exact .nil
  | cons h t ih => exact .cons (h.mono g) ih
def tAF (K : PySem.W.Frag) (mg : Str → Option Value) (W : WX) (f : Env → Res (List FV)) : TA := fun σ H Q => ∃ G env fp pv, RS K mg G σ env H fp pv ∧
  PostR mg W σ H (fun xs => ∀ vs G' H', Ext G H G' H' → Fqs K mg G' vs xs → Q vs H') (f env)
theorem ErrW.mono {W : WX} {c : Str} (e : Same H H') (h : ErrW mg W σ H c) : ErrW mg W σ H' c := fun C H2 m s => h C H2 m (e.trans s)
theorem PostR.imp {α : Type} {W : WX} {k k' : α → Prop} {r : Res α} (h : PostR mg W σ H k r) (e : Same H H') (q : ∀ a, k a → k' a) : PostR mg W σ H' k' r := by
  cases r with
  | ok a => exact q a h
  | err c => exact h.mono e
  | bad => exact h
/-- a step, then what follows -/
theorem PostR.seq {α β : Type} {W : WX} {k : α → Prop} {j : β → Prop} {r : Res α} {g : α → Res β} (h : PostR mg W σ H j (r.bind g)) (q : ∀ a, PostR mg W σ H j (g a) → k a) : PostR mg W σ H k r := by
  cases r with
  | ok a => exact q a h
  | err c => exact h
  | bad => exact h
end

/-! ### judgements are weakened -/
section
variable {X : Cx} {e : Expr} {es : List Expr}
theorem pe_imp {t t' : TE} (h : PE X e t) (q : ∀ σ H Q, t' σ H Q → t σ H Q) : PE X e t' := ⟨fun pins s σ H Q I w => h.run pins s σ H Q I (q σ H Q w)⟩
theorem pt_imp {t t' : TT} (h : PT X e t) (q : ∀ σ H Q, t' σ H Q → t σ H Q) : PT X e t' := ⟨fun pins s σ H Q I w => h.run pins s σ H Q I (q σ H Q w)⟩
theorem pa_imp {t t' : TA} (h : PA X es t) (q : ∀ σ H Q, t' σ H Q → t σ H Q) : PA X es t' := ⟨fun pos pins s σ H Q I w => h.run pos pins s σ H Q I (q σ H Q w)⟩
theorem ps_imp {st : Stmt} {t t' : TS} (h : PS X st t) (q : ∀ D σ H, t' D σ H → t D σ H) : PS X st t' := ⟨fun pins s σ H D I w => h.run pins s σ H D I (q D σ H w)⟩
theorem pss_imp {st : List Stmt} {t t' : TS} (h : PSs X st t) (q : ∀ D σ H, t' D σ H → t D σ H) : PSs X st t' := ⟨fun pins s σ H D I w => h.run pins s σ H D I (q D σ H w)⟩
theorem pi_imp {tg : Expr} {t t' : TI} (h : PI X tg e t) (q : ∀ σ H R, t' σ H R → t σ H R) : PI X tg e t' := ⟨fun pins s σ H R I w => h.run pins s σ H R I (q σ H R w)⟩
theorem po_imp {o : Option Expr} {t t' : TO} (h : PO X o t) (q : ∀ σ H Q, t' σ H Q → t σ H Q) : PO X o t' := ⟨fun pins s σ H Q I w => h.run pins s σ H Q I (q σ H Q w)⟩
theorem pg_imp {t t' : TG} (h : PG X e t) (q : ∀ v σ H Q, t' v σ H Q → t v σ H Q) : PG X e t' := ⟨fun pins s σ H v u Q I r w => h.run pins s σ H v u Q I r (q v σ H Q w)⟩
abbrev VP (X : Cx) (W : WX) (e : Expr) (f : FP) : Prop := PE X e (tP X.K X.mg W f)
abbrev VD (X : Cx) (W : WX) (e : Expr) (f : FD) : Prop := PE X e (tD X.K X.mg W f)
abbrev VO (X : Cx) (W : WX) (e : Expr) (f : FO) : Prop := PE X e (tO X.K X.mg W f)
abbrev VT (X : Cx) (W : WX) (e : Expr) (f : FT) : Prop := PT X e (tT X.K X.mg W f)
abbrev VA (X : Cx) (W : WX) (es : List Expr) (f : Env → Res (List PyData)) : Prop := PA X es (tA X.K X.mg W f)
abbrev VAF (X : Cx) (W : WX) (es : List Expr) (f : Env → Res (List FV)) : Prop := PA X es (tAF X.K X.mg W f)
end
end VL

set_option Elab.async false
set_option linter.all false
set_option maxRecDepth 100000
set_option maxHeartbeats 4000000
namespace VL
open PySem PySem.Spec PyProof.Rows L2
section
variable {X : Cx} {W : WX} {a b c e : Expr} {es : List Expr} {pos : Pos}

/-! ### what is read of values -/
def SV.leafs : List SV → Option (List PyData)
  | [] => some []
  | .f (.d p) :: xs => (SV.leafs xs).map (p :: ·)
  | _ :: _ => none
/-- a new list of data -/
def SV.dl (ds : List PyData) : SV := .own (ds.map fun p => .f (.d p))
theorem leafs_dq {K : PySem.W.Frag} {mg : Str → Option Value} {G H : Hp} : ∀ {vs : List V} {xs : List SV} {r : List Addr} {ds : List PyData}, Ows K mg G H vs xs r → SV.leafs xs = some ds → Dqs K G vs ds
  | _, _, _, _, .nil, q => by
    cases (show some [] = some _ from q)
    exact .nil
  | _, x :: xs, _, _, .cons h t, q => by
    match x, h, q with
    | .f (.d p), .f (.d h), q =>
      have q' : (SV.leafs xs).map (p :: ·) = some _ := q
      cases z : SV.leafs xs with
      | none => rw [z] at q'; cases q'
      | some ds => rw [z] at q'; cases q'; exact .cons h (leafs_dq t z)
    | .f (.ob _ _), _, q => cases (show none = some _ from q)
    | .f (.sc _), _, q => cases (show none = some _ from q)
    | .own _, _, q => cases (show none = some _ from q)
    | .otup _, _, q => cases (show none = some _ from q)
    | .obj _ _, _, q => cases (show none = some _ from q)
theorem leafs_map (ds : List PyData) : SV.leafs (ds.map fun p => .f (.d p)) = some ds := by
  induction ds with
  | nil => rfl
  | cons d ds ih => show (SV.leafs _).map _ = _; rw [ih]; rfl
theorem frzs_map (ds : List PyData) : SV.frzs (ds.map fun p => .f (.d p)) = some ds := by
  induction ds with
  | nil => rfl
  | cons d ds ih =>
    show (match SV.frz (.f (.d d)), SV.frzs (ds.map fun p => .f (.d p)) with | some p, some ps => some (p :: ps) | _, _ => none) = _
    rw [ih]
    rfl
theorem frz?_dl (ds : List PyData) : SV.frz? (SV.dl ds) = some (.d (.list ds)) := by
  show (SV.frzs _).map _ = _
  rw [frzs_map]; rfl
theorem frz_dl (ds : List PyData) : SV.frz (SV.dl ds) = some (.list ds) := by
  show (SV.frzs _).map _ = _
  rw [frzs_map]; rfl
theorem ows_of {K : PySem.W.Frag} {mg : Str → Option Value} {G H : Hp} : ∀ {vs : List V} {ds : List PyData}, Dqs K G vs ds → Ows K mg G H vs (ds.map fun p => .f (.d p)) []
  | _, _, .nil => .nil
  | _, _, .cons h t => .cons (r := []) (rs := []) (.f (.d h)) (ows_of t)
theorem ow_dl {K : PySem.W.Frag} {mg : Str → Option Value} {G H : Hp} {p : Addr} {vs : List V} {ds : List PyData} (h : H p = some (.lst vs)) (t : Dqs K G vs ds) : Ow K mg G H (.ref p) (SV.dl ds) [p] := .own h (ows_of t)
/-- a new list is told: the answer of a rule -/
theorem new_dl {K : PySem.W.Frag} {mg : Str → Option Value} {G H : Hp} {vs : List V} {ds : List PyData} {Q : VK} (s : Same G H) (t : Dqs K G vs ds)
    (q : ∀ v G' H' r, Ext G H G' H' → Ow K mg G' H' v (SV.dl ds) r → r.Nodup → (∀ a ∈ r, H a = none ∧ G' a = none) → Q v H') : ∀ p, H p = none → Q (.ref p) (upd H p (.lst vs)) := fun p hp =>
  q _ G _ [p] (Ext.newO s hp) (ow_dl upd_same t) (by simp) fun a m => by
    have e : a = p := by simpa using m
    subst e
    exact ⟨hp, none_back s hp⟩
theorem new_tup {K : PySem.W.Frag} {mg : Str → Option Value} {G H : Hp} {vs : List V} {ds : List PyData} {Q : VK} (s : Same G H) (t : Dqs K G vs ds)
    (q : ∀ v G' H', Ext G H G' H' → Fq K mg G' v (.d (.tuple ds)) → Q v H') : ∀ p, H p = none → Q (.ref p) (upd H p (.tup vs)) := fun p hp =>
  q _ _ _ (Ext.new s hp) (.d (.tup (SqT.of upd_same) (t.mono (Ext.new s hp).g)))

/-! ### coercions -/
def toD (f : FP) : FD := fun env => (f env).bind fun | .d p => .ok p | _ => .bad
def frO (f : FO) : FP := fun env => (f env).bind fun s => match s.frz? with | some x => .ok x | none => .bad
def frD (f : FO) : FD := fun env => (f env).bind fun s => match s.frz with | some x => .ok x | none => .bad
def unO (f : FP) : FO := fun env => (f env).bind fun x => .ok (.f x)
theorem vd_p {f : FP} (h : VP X W e f) : VD X W e (toD f) := pe_imp h fun σ H Q ⟨G, env, fp, pv, rs, w⟩ => ⟨G, env, fp, pv, rs, PostR.seq w fun x w v G' H' ex fq => by
  match x, fq, w with
  | .d p, .d q, w => exact w v G' H' ex (.fz q)
  | .ob _ _, _, w => exact w.elim
  | .sc _, _, w => exact w.elim⟩
theorem vp_o {f : FO} (h : VO X W e f) : VP X W e (frO f) := pe_imp h fun σ H Q ⟨G, env, fp, pv, rs, w⟩ => ⟨G, env, fp, pv, rs, PostR.seq w fun s w v G' H' r ex ow nd fr => by
  cases z : s.frz? with
  | none => rw [z] at w; exact w.elim
  | some x =>
    rw [z] at w
    have g : Same G' (gu G' H' r) := gu_same ex.s
    refine w v (gu G' H' r) H' ⟨ex.g.trans g, ex.h, gu_sub ex.s, fun a o e => ?_⟩ (ow.frozenF g (fun a m o e => by rw [gu_in m]; exact e) z)
    by_cases m : a ∈ r
    · exact .inr (fr a m).1
    · rw [gu_out m] at e; exact ex.n a o e⟩
theorem vd_o {f : FO} (h : VO X W e f) : VD X W e (frD f) := pe_imp h fun σ H Q ⟨G, env, fp, pv, rs, w⟩ => ⟨G, env, fp, pv, rs, PostR.seq w fun s w v G' H' r ex ow nd fr => by
  cases z : s.frz with
  | none => rw [z] at w; exact w.elim
  | some x =>
    rw [z] at w
    have g : Same G' (gu G' H' r) := gu_same ex.s
    refine w v (gu G' H' r) H' ⟨ex.g.trans g, ex.h, gu_sub ex.s, fun a o e => ?_⟩ (.fz (ow.frozen g (fun a m o e => by rw [gu_in m]; exact e) z))
    by_cases m : a ∈ r
    · exact .inr (fr a m).1
    · rw [gu_out m] at e; exact ex.n a o e⟩
theorem vo_p {f : FP} (h : VP X W e f) : VO X W e (unO f) := pe_imp h fun σ H Q ⟨G, env, fp, pv, rs, w⟩ => ⟨G, env, fp, pv, rs, PostR.seq w fun x w v G' H' ex fq =>
  w v G' H' [] ex (.f fq) .nil (fun _ m => by cases m)⟩

/-! ### names, constants -/
def vVar (i : Nat) : FP := fun env => match env[i]? with | some (.va (.f x)) => .ok x | some (.rf (.f x)) => .ok x | some (.vw (.f x)) => .ok x | _ => .bad
def vVarD (i : Nat) : FD := fun env => match env[i]? with
  | some (.va (.f (.d p))) => .ok p
  | some (.rf (.f (.d p))) => .ok p
  | some (.va (.own xs)) => match SV.leafs xs with | some ds => .ok (.list ds) | none => .bad
  | some (.rf (.own xs)) => match SV.leafs xs with | some ds => .ok (.list ds) | none => .bad
  | some (.vw (.f (.d p))) => .ok p
  | some (.vw (.own xs)) => match SV.leafs xs with | some ds => .ok (.list ds) | none => .bad
  | _ => .bad
theorem vp_var {i : Nat} (h : PE X e (tVar i)) : VP X W e (vVar i) := pe_imp h fun σ H Q ⟨G, env, fp, pv, rs, w⟩ => by
  unfold vVar at w
  split at w
  · rename_i x e1
    obtain ⟨v, e2, q⟩ := rs.rel i _ e1
    generalize fp i = r at q
    cases q with
    | f q => exact ⟨v, e2, w v G H (Ext.refl rs.sub) q⟩
  · rename_i x e1
    obtain ⟨e2, q⟩ := rs.rel i _ e1
    generalize fp i = r at q
    generalize pv i = u at e2 q
    cases q with
    | f q => exact ⟨_, e2, w _ G H (Ext.refl rs.sub) q⟩
  · rename_i x e1
    obtain ⟨_, v, r, e2, q⟩ := rs.rel i _ e1
    cases q with
    | f q => exact ⟨_, e2, w _ G H (Ext.refl rs.sub) q⟩
  · exact w.elim
theorem vd_var {i : Nat} (h : PE X e (tVar i)) : VD X W e (vVarD i) := pe_imp h fun σ H Q ⟨G, env, fp, pv, rs, w⟩ => by
  unfold vVarD at w
  split at w
  · rename_i x e1
    obtain ⟨v, e2, q⟩ := rs.rel i _ e1
    generalize fp i = r at q
    cases q with
    | f q => cases q with | d q => exact ⟨v, e2, w v G H (Ext.refl rs.sub) (.fz q)⟩
  · rename_i x e1
    obtain ⟨e2, q⟩ := rs.rel i _ e1
    generalize fp i = r at q
    generalize pv i = u at e2 q
    cases q with
    | f q => cases q with | d q => exact ⟨_, e2, w _ G H (Ext.refl rs.sub) (.fz q)⟩
  · rename_i xs e1
    obtain ⟨v, e2, q⟩ := rs.rel i _ e1
    generalize fp i = r at q
    cases z : SV.leafs xs with
    | none => rw [z] at w; exact w.elim
    | some ds =>
      rw [z] at w
      cases q with
      | own h t => exact ⟨_, e2, w _ G H (Ext.refl rs.sub) (.top h (leafs_dq t z))⟩
  · rename_i xs e1
    obtain ⟨e2, q⟩ := rs.rel i _ e1
    generalize fp i = r at q
    generalize pv i = u at e2 q
    cases z : SV.leafs xs with
    | none => rw [z] at w; exact w.elim
    | some ds =>
      rw [z] at w
      cases q with
      | own h t => exact ⟨_, e2, w _ G H (Ext.refl rs.sub) (.top h (leafs_dq t z))⟩
  · rename_i x e1
    obtain ⟨_, v, r, e2, q⟩ := rs.rel i _ e1
    cases q with
    | f q => cases q with | d q => exact ⟨v, e2, w v G H (Ext.refl rs.sub) (.fz q)⟩
  · rename_i xs e1
    obtain ⟨_, v, r, e2, q⟩ := rs.rel i _ e1
    cases z : SV.leafs xs with
    | none => rw [z] at w; exact w.elim
    | some ds =>
      rw [z] at w
      cases q with
      | own h t => exact ⟨_, e2, w _ G H (Ext.refl rs.sub) (.top h (leafs_dq t z))⟩
  · exact w.elim
def vC (p : PyData) : FP := fun _ => .ok (.d p)
theorem vp_c {v : V} {p : PyData} (h : PE X e (tC v)) (q : ∀ G, Dq X.K G v p) : VP X W e (vC p) := pe_imp h fun σ H Q ⟨G, env, fp, pv, rs, w⟩ => w v G H (Ext.refl rs.sub) (.d (q G))
theorem vp_int {i : Int} {j} : VP X W (.Constant (.int i) j pos) (vC (.int i)) := vp_c pe_int fun _ => .int i
theorem vp_bl {i : Bool} {j} : VP X W (.Constant (.bool i) j pos) (vC (.bool i)) := vp_c pe_bl fun _ => .bl i
theorem vp_non {j} : VP X W (.Constant .none j pos) (vC .none) := vp_c pe_non fun _ => .non
theorem vp_str {i : Str} {j} : VP X W (.Constant (.str i) j pos) (vC (.str i)) := vp_c pe_str fun _ => .str i

/-! ### two operands -/
def v2 {α : Type} (h : PyData → PyData → Res α) (f g : FD) : Env → Res α := fun env => (f env).bind fun x => (g env).bind fun y => h x y
def ROk {α : Type} (k : α → Prop) : Res α → Prop
  | .ok a => k a
  | _ => False
theorem tD_bin {α : Type} {h : PyData → PyData → Res α} {f g : FD} {r : R2} {ta tb : TE} {σ : L2.St} {H : Hp} {Q : VK} {j : Hp → Hp → α → Prop} {G : Hp} {env : Env} {fp : Nat → List Addr} {pv : Nat → V}
    (ea : ta = tD X.K X.mg W f) (eb : tb = tD X.K X.mg W g) (rs : RS X.K X.mg G σ env H fp pv)
    (w : PostR X.mg W σ H (j G H) (v2 h f g env)) (jm : ∀ {G H G' H' x}, Ext G H G' H' → j G H x → j G' H' x)
    (hr : ∀ x y vx vy G H, Same G H → Dr X.K G H vx x → Dr X.K G H vy y → PostR X.mg W σ H (j G H) (h x y) → r vx vy H Q) : tOp r ta tb σ H Q := by
  subst ea eb
  refine ⟨G, env, fp, pv, rs, PostR.seq w fun x w vx G1 H1 e1 q1 => ⟨G1, env, fp, pv, rs.ext e1, ?_⟩⟩
  refine PostR.imp (PostR.seq (k := fun y => PostR X.mg W σ H (j G H) (h x y)) w fun y w => w) e1.h fun y w vy G2 H2 e2 q2 => ?_
  exact hr x y vx vy G2 H2 e2.s (q1.mono e2.g e2.h) q2 (PostR.imp w (e1.h.trans e2.h) fun z q => jm (e1.trans e2) q)
/-- what a value's rule wants, behind growth -/
def jP (K : PySem.W.Frag) (mg : Str → Option Value) (Q : VK) (G H : Hp) (x : FV) : Prop := ∀ v G' H', Ext G H G' H' → Fq K mg G' v x → Q v H'
def jO (K : PySem.W.Frag) (mg : Str → Option Value) (Q : VK) (G H : Hp) (x : SV) : Prop := ∀ v G' H' r, Ext G H G' H' → Ow K mg G' H' v x r → r.Nodup → (∀ a ∈ r, H a = none ∧ G' a = none) → Q v H'
theorem jP.ext {Q : VK} {G H G' H' : Hp} {x : FV} (e : Ext G H G' H') (h : jP X.K X.mg Q G H x) : jP X.K X.mg Q G' H' x := fun v G2 H2 e2 q => h v G2 H2 (e.trans e2) q
theorem jO.ext {Q : VK} {G H G' H' : Hp} {x : SV} (e : Ext G H G' H') (h : jO X.K X.mg Q G H x) : jO X.K X.mg Q G' H' x := fun v G2 H2 r e2 q nd fr => h v G2 H2 r (e.trans e2) q nd fun a m => ⟨none_back e.h (fr a m).1, (fr a m).2⟩
theorem vp_op {op : Operator} {r : R2} {h : PyData → PyData → Res FV} {f g : FD} (ho : OpR X (binaryOp op) r) (ha : VD X W a f) (hb : VD X W b g)
    (hr : ∀ σ Q x y vx vy G H, Same G H → Dr X.K G H vx x → Dr X.K G H vy y → PostR X.mg W σ H (jP X.K X.mg Q G H) (h x y) → r vx vy H Q) : VP X W (.BinOp a op b pos) (v2 h f g) :=
  pe_imp (pe_op ho ha hb) fun σ H Q ⟨G, env, fp, pv, rs, w⟩ => tD_bin (j := jP X.K X.mg Q) rfl rfl rs w jP.ext (hr σ Q)
theorem vo_op {op : Operator} {r : R2} {h : PyData → PyData → Res SV} {f g : FD} (ho : OpR X (binaryOp op) r) (ha : VD X W a f) (hb : VD X W b g)
    (hr : ∀ σ Q x y vx vy G H, Same G H → Dr X.K G H vx x → Dr X.K G H vy y → PostR X.mg W σ H (jO X.K X.mg Q G H) (h x y) → r vx vy H Q) : VO X W (.BinOp a op b pos) (v2 h f g) :=
  pe_imp (pe_op ho ha hb) fun σ H Q ⟨G, env, fp, pv, rs, w⟩ => tD_bin (j := jO X.K X.mg Q) rfl rfl rs w jO.ext (hr σ Q)
theorem vp_cm {op : CmpOp} {r : R2} {h : PyData → PyData → Res FV} {f g : FD} (ho : OpR X (compareOp op) r) (ha : VD X W a f) (hb : VD X W b g) (hm : behindInMarks op b = false)
    (hr : ∀ σ Q x y vx vy G H, Same G H → Dr X.K G H vx x → Dr X.K G H vy y → PostR X.mg W σ H (jP X.K X.mg Q G H) (h x y) → r vx vy H Q) : VP X W (.Compare a [op] [b] pos) (v2 h f g) :=
  pe_imp (pe_cmpR ho ha hb hm) fun σ H Q ⟨G, env, fp, pv, rs, w⟩ => tD_bin (j := jP X.K X.mg Q) rfl rfl rs w jP.ext (hr σ Q)
def jT (Q : Bool → Hp → Prop) (G H : Hp) (x : FV) : Prop := ∃ b, x = .d (.bool b) ∧ ∀ G' H', Ext G H G' H' → Q b H'

/-- a choice that nothing reckons out -/
noncomputable def cIf {α : Type} (c : Prop) (a b : α) : α := @ite α c (Classical.propDecidable c) a b
theorem cIf_pos {α : Type} {c : Prop} {a b : α} (h : c) : cIf c a b = a := by unfold cIf; rw [if_pos h]
theorem cIf_neg {α : Type} {c : Prop} {a b : α} (h : ¬ c) : cIf c a b = b := by unfold cIf; rw [if_neg h]

/-! ### whole numbers -/
def iI (i : Int) : Res FV := .ok (.d (.int i))
def iB (b : Bool) : Res FV := .ok (.d (.bool b))
def subI : PyData → PyData → Res FV
  | .int i, .int j => iI (i - j)
  | _, _ => .bad
noncomputable def modI : PyData → PyData → Res FV
  | .int i, .int j => cIf (0 < j) (iI (i % j)) .bad
  | _, _ => .bad
noncomputable def divI : PyData → PyData → Res FV
  | .int i, .int j => cIf (0 < j ∧ j < 1073741824) (iI (i / j)) .bad
  | _, _ => .bad
theorem Dr.int {K : PySem.W.Frag} {G H : Hp} {v : V} {i : Int} (h : Dr K G H v (.int i)) : v = .int i := by
  cases h with | fz h => cases h; rfl
theorem Dr.bool {K : PySem.W.Frag} {G H : Hp} {v : V} {i : Bool} (h : Dr K G H v (.bool i)) : v = .bl i := by
  cases h with | fz h => cases h; rfl
theorem Dr.str {K : PySem.W.Frag} {G H : Hp} {v : V} {i : Str} (h : Dr K G H v (.str i)) : v = .str i := by
  cases h with | fz h => cases h; rfl
theorem Dr.non {K : PySem.W.Frag} {G H : Hp} {v : V} (h : Dr K G H v .none) : v = .non := by
  cases h with | fz h => cases h; rfl
theorem jP.int {Q : VK} {G H : Hp} {i : Int} (s : Same G H) (h : jP X.K X.mg Q G H (.d (.int i))) : Q (.int i) H := h _ G H (Ext.refl s) (.d (.int i))
theorem jP.bool {Q : VK} {G H : Hp} {i : Bool} (s : Same G H) (h : jP X.K X.mg Q G H (.d (.bool i))) : Q (.bl i) H := h _ G H (Ext.refl s) (.d (.bl i))
theorem vp_sub {f g : FD} (ha : VD X W a f) (hb : VD X W b g) : VP X W (.BinOp a .Sub b pos) (v2 subI f g) := vp_op op_sub ha hb fun σ Q x y vx vy G H s hx hy w => by
  unfold subI at w
  split at w
  · exact ⟨_, _, hx.int, hy.int, jP.int s w⟩
  · exact w.elim
theorem vp_mod {f g : FD} (ha : VD X W a f) (hb : VD X W b g) : VP X W (.BinOp a .Mod b pos) (v2 modI f g) := vp_op op_mod ha hb fun σ Q x y vx vy G H s hx hy w => by
  unfold modI cIf at w
  split at w
  · split at w
    · rename_i h
      exact ⟨_, _, hx.int, hy.int, h, jP.int s w⟩
    · exact w.elim
  · exact w.elim
theorem vp_div {f g : FD} (ha : VD X W a f) (hb : VD X W b g) : VP X W (.BinOp a .FloorDiv b pos) (v2 divI f g) := vp_op op_fdiv ha hb fun σ Q x y vx vy G H s hx hy w => by
  unfold divI cIf at w
  split at w
  · split at w
    · rename_i h
      exact ⟨_, _, hx.int, hy.int, h, jP.int s w⟩
    · exact w.elim
  · exact w.elim
/-- + of whole numbers, lists, tuples -/
noncomputable def addV : PyData → PyData → Res SV
  | .int i, .int j => .ok (.f (.d (.int (i + j))))
  | .list xs, .list ys => cIf (xs.length + ys.length ≤ 16777216) (.ok (SV.dl (xs ++ ys))) .bad
  | .tuple xs, .tuple ys => cIf (xs.length + ys.length ≤ 16777216) (.ok (.f (.d (.tuple (xs ++ ys))))) .bad
  | _, _ => .bad
theorem jO.f {Q : VK} {G H : Hp} {x : FV} (h : jO X.K X.mg Q G H (.f x)) : jP X.K X.mg Q G H x := fun v G' H' e q => h v G' H' [] e (.f q) .nil (fun _ m => by cases m)
theorem sl_eq : sizeLine = 16777216 := sizeLine_eq
theorem Dr.tup {K : PySem.W.Frag} {G H : Hp} {v : V} {ds : List PyData} (h : Dr K G H v (.tuple ds)) : ∃ a vs, v = .ref a ∧ SqT K G a vs ∧ Dqs K G vs ds := by
  cases h with | fz h => cases h with | tup h t => exact ⟨_, _, rfl, h, t⟩
theorem vo_add {f g : FD} (ha : VD X W a f) (hb : VD X W b g) : VO X W (.BinOp a .Add b pos) (v2 addV f g) := vo_op (OpR.or op_add (OpR.or op_cat op_catA)) ha hb fun σ Q x y vx vy G H s hx hy w => by
  unfold addV cIf at w
  split at w
  · exact .inl ⟨_, _, hx.int, hy.int, jP.int s (jO.f w)⟩
  · split at w
    · rename_i xs ys hl
      obtain ⟨p1, v1, e1, h1, t1⟩ := hx.lst s
      obtain ⟨p2, v2, e2, h2, t2⟩ := hy.lst s
      exact .inr (.inl ⟨p1, p2, v1, v2, e1, e2, h1, h2, by rw [t1.length, t2.length, sl_eq]; exact hl, new_dl s (t1.append t2) w⟩)
    · exact w.elim
  · split at w
    · rename_i xs ys hl
      obtain ⟨p1, v1, e1, h1, t1⟩ := hx.tup
      obtain ⟨p2, v2, e2, h2, t2⟩ := hy.tup
      have w' := jO.f w
      refine .inr (.inr ⟨p1, p2, v1, v2, e1, e2, sqt_mono s h1, sqt_mono s h2, by rw [t1.length, t2.length, sl_eq]; exact hl, fun z => ?_, fun _ z => ?_, fun _ _ => new_tup s (t1.append t2) w'⟩)
      · subst z
        cases t1
        exact w' _ G H (Ext.refl s) (.d (.tup h2 t2))
      · subst z
        cases t2
        exact w' _ G H (Ext.refl s) (.d (.tup h1 (by rw [List.append_nil]; exact t1)))
    · exact w.elim
  · exact w.elim
/-- * of whole numbers, of a list and a whole number -/
noncomputable def mulV : PyData → PyData → Res SV
  | .int i, .int j => cIf ((-18446744073709551616 < i ∧ i < 18446744073709551616) ∨ (-18446744073709551616 < j ∧ j < 18446744073709551616)) (.ok (.f (.d (.int (i * j))))) .bad
  | .list xs, .int k => cIf (0 ≤ k ∧ k < 1000000 ∧ xs.length * k.toNat ≤ 16777216) (.ok (SV.dl (List.replicate k.toNat xs).flatten)) .bad
  | _, _ => .bad
theorem Dqs.rep {K : PySem.W.Frag} {G : Hp} {vs : List V} {ds : List PyData} (h : Dqs K G vs ds) : ∀ n : Nat, Dqs K G (List.replicate n vs).flatten (List.replicate n ds).flatten
  | 0 => .nil
  | n + 1 => by
    rw [List.replicate_succ, List.replicate_succ, List.flatten_cons, List.flatten_cons]
    exact h.append (Dqs.rep h n)
theorem vo_mul {f g : FD} (ha : VD X W a f) (hb : VD X W b g) : VO X W (.BinOp a .Mult b pos) (v2 mulV f g) := vo_op (OpR.or op_mul op_rep) ha hb fun σ Q x y vx vy G H s hx hy w => by
  unfold mulV cIf at w
  split at w
  · split at w
    · rename_i h
      exact .inl ⟨_, _, hx.int, hy.int, h.imp (fun q => ⟨by have := q.1; omega, by have := q.2; omega⟩) (fun q => ⟨by have := q.1; omega, by have := q.2; omega⟩), jP.int s (jO.f w)⟩
    · exact w.elim
  · split at w
    · rename_i xs k hl
      obtain ⟨p1, v1, e1, h1, t1⟩ := hx.lst s
      exact .inr ⟨p1, k, v1, e1, hy.int, h1, by omega, by omega, by rw [t1.length, sl_eq]; exact hl.2.2, new_dl s (t1.rep k.toNat) w⟩
    · exact w.elim
  · exact w.elim
def negI : PyData → Res FV
  | .int i => iI (-i)
  | _ => .bad
def v1 {α : Type} (h : PyData → Res α) (f : FD) : Env → Res α := fun env => (f env).bind fun x => h x
theorem vp_neg {f : FD} (ha : VD X W a f) : VP X W (.UnaryOp .USub a pos) (v1 negI f) := pe_imp (pe_un un_neg ha) fun σ H Q ⟨G, env, fp, pv, rs, w⟩ =>
  ⟨G, env, fp, pv, rs, PostR.seq w fun x w vx G1 H1 e1 q1 => by
    unfold negI at w
    split at w
    · exact ⟨_, q1.int, w _ G1 H1 e1 (.d (.int _))⟩
    · exact w.elim⟩

/-! ### comparisons -/
def ltI (r : Int → Int → Bool) : PyData → PyData → Res FV
  | .int i, .int j => iB (r i j)
  | _, _ => .bad
theorem rI0_ok {r : Int → Int → Bool} {σ : L2.St} {Q : VK} {x y : PyData} {vx vy : V} {G H : Hp} (s : Same G H) (hx : Dr X.K G H vx x) (hy : Dr X.K G H vy y) (w : PostR X.mg W σ H (jP X.K X.mg Q G H) (ltI r x y)) : rI0 (fun i j => .bl (r i j)) vx vy H Q := by
  unfold ltI at w
  split at w
  · exact ⟨_, _, hx.int, hy.int, jP.bool s w⟩
  · exact w.elim
def eqP (x y : PyData) : Res FV := if SeqAt.shaped x = true ∧ SeqAt.shaped y = true then iB (PyData.eqv x y) else .bad
def neP (x y : PyData) : Res FV := if SeqAt.shaped x = true ∧ SeqAt.shaped y = true then iB (!PyData.eqv x y) else .bad
theorem eqP_ok {σ : L2.St} {Q : VK} {x y : PyData} {vx vy : V} {G H : Hp} (s : Same G H) (hx : Dr X.K G H vx x) (hy : Dr X.K G H vy y) (w : PostR X.mg W σ H (jP X.K X.mg Q G H) (eqP x y)) : rEqD X.K vx vy H Q := by
  unfold eqP at w
  split at w
  · rename_i h
    exact ⟨x, y, hx.dp s, hy.dp s, h.1, h.2, jP.bool s w⟩
  · exact w.elim
theorem neP_ok {σ : L2.St} {Q : VK} {x y : PyData} {vx vy : V} {G H : Hp} (s : Same G H) (hx : Dr X.K G H vx x) (hy : Dr X.K G H vy y) (w : PostR X.mg W σ H (jP X.K X.mg Q G H) (neP x y)) : rNeD X.K vx vy H Q := by
  unfold neP at w
  split at w
  · rename_i h
    exact ⟨x, y, hx.dp s, hy.dp s, h.1, h.2, jP.bool s w⟩
  · exact w.elim
/-- flat data as values -/
def flatP : PyData → Bool
  | .none => true
  | .bool _ => true
  | .int _ => true
  | .str _ => true
  | _ => false
def toV : PyData → V
  | .none => .non
  | .bool b => .bl b
  | .int i => .int i
  | .str s => .str s
  | _ => .flt 0
theorem Dq.flat {K : PySem.W.Frag} {G : Hp} {v : V} {p : PyData} (h : Dq K G v p) (f : flatP p = true) : v = toV p ∧ flatV v = true := by
  cases h with
  | non => exact ⟨rfl, rfl⟩
  | bl b => exact ⟨rfl, rfl⟩
  | int b => exact ⟨rfl, rfl⟩
  | str b => exact ⟨rfl, rfl⟩
  | lst _ _ => cases f
  | tup _ _ => cases f
theorem Dr.flat {K : PySem.W.Frag} {G H : Hp} {v : V} {p : PyData} (h : Dr K G H v p) (f : flatP p = true) : v = toV p ∧ flatV v = true := by
  cases h with
  | fz h => exact h.flat f
  | top _ _ => cases f
theorem Dqs.flat {K : PySem.W.Frag} {G : Hp} : ∀ {vs : List V} {ds : List PyData}, Dqs K G vs ds → ds.all flatP = true → vs = ds.map toV ∧ vs.all flatV = true
  | _, _, .nil, _ => ⟨rfl, rfl⟩
  | _, _, .cons h t, f => by
    rw [List.all_cons, Bool.and_eq_true] at f
    obtain ⟨e1, f1⟩ := h.flat f.1
    obtain ⟨e2, f2⟩ := Dqs.flat t f.2
    exact ⟨by rw [List.map_cons, ← e1, ← e2], by rw [List.all_cons, f1, f2]; rfl⟩
def inB (neg b : Bool) : Res FV := iB (if neg then !b else b)
def inP (neg : Bool) (x y : PyData) : Res FV := match y with
  | .list ds => if flatP x = true ∧ ds.all flatP = true then inB neg (inV (toV x) (ds.map toV)) else if SeqAt.shaped x = true ∧ SeqAt.shaped (.list ds) = true then inB neg (ds.any fun z => PyData.eqv z x) else .bad
  | .tuple ds => if flatP x = true ∧ ds.all flatP = true then inB neg (inV (toV x) (ds.map toV)) else .bad
  | _ => .bad
theorem inP_ok {neg : Bool} {σ : L2.St} {Q : VK} {x y : PyData} {vx vy : V} {G H : Hp} (s : Same G H) (hx : Dr X.K G H vx x) (hy : Dr X.K G H vy y) (w : PostR X.mg W σ H (jP X.K X.mg Q G H) (inP neg x y)) :
    rIn X.K neg vx vy H Q ∨ (∃ d ds, Dp X.K H vx d ∧ Dp X.K H vy (.list ds) ∧ SeqAt.shaped d = true ∧ SeqAt.shaped (.list ds) = true ∧ Q (.bl (if neg then !(ds.any fun z => PyData.eqv z d) else ds.any fun z => PyData.eqv z d)) H) := by
  unfold inP at w
  split at w
  · rename_i ds
    split at w
    · rename_i hf
      obtain ⟨e1, f1⟩ := hx.flat hf.1
      obtain ⟨p, vs, e2, h2, t2⟩ := hy.lst s
      obtain ⟨e3, f3⟩ := t2.flat hf.2
      refine .inl ⟨p, vs, e2, .inl (SqL.of h2), f1, f3, ?_⟩
      rw [e1, e3]
      exact jP.bool s w
    · split at w
      · rename_i hs
        exact .inr ⟨x, ds, hx.dp s, hy.dp s, hs.1, hs.2, jP.bool s w⟩
      · exact w.elim
  · rename_i ds
    split at w
    · rename_i hf
      obtain ⟨e1, f1⟩ := hx.flat hf.1
      obtain ⟨p, vs, e2, h2, t2⟩ := hy.tup
      obtain ⟨e3, f3⟩ := t2.flat hf.2
      refine .inl ⟨p, vs, e2, .inr (sqt_mono s h2), f1, f3, ?_⟩
      rw [e1, e3]
      exact jP.bool s w
    · exact w.elim
  · exact w.elim
/-- the comparisons, by their words -/
inductive Cop where
  | lt | le | gt | ge | eq | ne | isin | notin
  deriving DecidableEq
def Cop.op : Cop → CmpOp
  | .lt => .Lt | .le => .LtE | .gt => .Gt | .ge => .GtE | .eq => .Eq | .ne => .NotEq | .isin => .In | .notin => .NotIn
def Cop.h : Cop → PyData → PyData → Res FV
  | .lt => ltI fun i j => decide (i < j)
  | .le => ltI fun i j => decide (i ≤ j)
  | .gt => ltI fun i j => decide (j < i)
  | .ge => ltI fun i j => decide (j ≤ i)
  | .eq => eqP
  | .ne => neP
  | .isin => inP false
  | .notin => inP true
def Cop.r (K : PySem.W.Frag) : Cop → R2
  | .lt => rI0 fun i j => .bl (decide (i < j))
  | .le => rI0 fun i j => .bl (decide (i ≤ j))
  | .gt => rI0 fun i j => .bl (decide (j < i))
  | .ge => rI0 fun i j => .bl (decide (j ≤ i))
  | .eq => rEqD K
  | .ne => rNeD K
  | .isin => fun x y H Q => rIn K false x y H Q ∨ rInD K x y H Q
  | .notin => fun x y H Q => rIn K true x y H Q ∨ rNotInD K x y H Q
theorem cop_or (hu : X.A.units + 65 < cLine) : ∀ c : Cop, OpR X (compareOp c.op) (c.r X.K)
  | .lt => op_lt
  | .le => op_le
  | .gt => op_gt
  | .ge => op_ge
  | .eq => op_eqD (by omega)
  | .ne => op_neD (by omega)
  | .isin => OpR.or op_in_seq (op_inD hu)
  | .notin => OpR.or op_notIn_seq (op_notInD hu)
theorem cop_ok {σ : L2.St} {Q : VK} {x y : PyData} {vx vy : V} {G H : Hp} (s : Same G H) (hx : Dr X.K G H vx x) (hy : Dr X.K G H vy y) : ∀ c : Cop, PostR X.mg W σ H (jP X.K X.mg Q G H) (c.h x y) → c.r X.K vx vy H Q
  | .lt, w => rI0_ok s hx hy w
  | .le, w => rI0_ok s hx hy w
  | .gt, w => rI0_ok s hx hy w
  | .ge, w => rI0_ok s hx hy w
  | .eq, w => eqP_ok s hx hy w
  | .ne, w => neP_ok s hx hy w
  | .isin, w => by
    rcases inP_ok s hx hy w with q | ⟨d, ds, h1, h2, h3, h4, q⟩
    · exact .inl q
    · exact .inr ⟨d, ds, h1, h2, h3, h4, q⟩
  | .notin, w => by
    rcases inP_ok s hx hy w with q | ⟨d, ds, h1, h2, h3, h4, q⟩
    · exact .inl q
    · exact .inr ⟨d, ds, h1, h2, h3, h4, q⟩
def vCmp (c : Cop) (f g : FD) : FP := v2 c.h f g
theorem vp_cmp (c : Cop) {f g : FD} (hu : X.A.units + 65 < cLine) (ha : VD X W a f) (hb : VD X W b g) (hm : behindInMarks c.op b = false) : VP X W (.Compare a [c.op] [b] pos) (vCmp c f g) :=
  vp_cm (cop_or hu c) ha hb hm fun σ Q x y vx vy G H s hx hy w => cop_ok s hx hy c w
end
end VL

set_option Elab.async false
set_option linter.all false
set_option maxRecDepth 100000
set_option maxHeartbeats 4000000
namespace VL
open PySem PySem.Spec PyProof.Rows L2
section
variable {X : Cx} {W : WX} {a b c e : Expr} {es : List Expr} {pos : Pos}

/-! ### tests -/
def toT (f : FP) : FT := fun env => (f env).bind fun | .d (.bool b) => .ok b | _ => .bad
theorem tT_tP {f : FP} {σ : L2.St} {H : Hp} {Q : Bool → Hp → Prop} (h : tT X.K X.mg W (toT f) σ H Q) : tP X.K X.mg W f σ H fun x H' => ∃ k, x = .bl k ∧ Q k H' := by
  obtain ⟨G, env, fp, pv, rs, w⟩ := h
  refine ⟨G, env, fp, pv, rs, PostR.seq w fun x w v G' H' ex q => ?_⟩
  match x, q, w with
  | .d (.bool k), .d q, w => cases q; exact ⟨k, rfl, w G' H' ex⟩
  | .d .none, _, w => exact w.elim
  | .d (.int _), _, w => exact w.elim
  | .d (.str _), _, w => exact w.elim
  | .d (.list _), _, w => exact w.elim
  | .d (.tuple _), _, w => exact w.elim
  | .d (.dict _), _, w => exact w.elim
  | .ob _ _, _, w => exact w.elim
  | .sc _, _, w => exact w.elim
theorem vt_p {f : FP} (h : VP X W e f) (he : ∀ whole, isTrue e X.env whole = (do let v ← whole; standAt e.pos; holding [v] (truthy v)) := by intro _; rfl) : VT X W e (toT f) :=
  pt_imp (pt_val h he) fun σ H Q w => tT_tP w
theorem vp_cmp_imp {c : Cop} {f g : FD} {σ : L2.St} {H : Hp} {Q : VK} (w : tP X.K X.mg W (vCmp c f g) σ H Q) : tOp (c.r X.K) (tD X.K X.mg W f) (tD X.K X.mg W g) σ H Q := by
  obtain ⟨G, env, fp, pv, rs, w⟩ := w
  exact tD_bin (j := jP X.K X.mg Q) rfl rfl rs w jP.ext fun x y vx vy G H s hx hy w => cop_ok s hx hy c w
theorem vt_cmp (c : Cop) {f g : FD} (hu : X.A.units + 65 < cLine) (ha : VD X W a f) (hb : VD X W b g) (hm : behindInMarks c.op b = false) : VT X W (.Compare a [c.op] [b] pos) (toT (vCmp c f g)) :=
  pt_imp (pt_cmpR (cop_or hu c) ha hb hm) fun σ H Q w => vp_cmp_imp (tT_tP w)
/-- a op b op c -/
def vChain (c c' : Cop) (f g h : FD) : FP := fun env => (f env).bind fun x => (g env).bind fun y => (c.h x y).bind fun
  | .d (.bool true) => (h env).bind fun z => c'.h y z
  | .d (.bool false) => iB false
  | _ => .bad
theorem vp_chain_imp {c c' : Cop} {f g h : FD} {σ : L2.St} {H : Hp} {Q : VK} (w : tP X.K X.mg W (vChain c c' f g h) σ H Q) : tChain (c.r X.K) (c'.r X.K) (tD X.K X.mg W f) (tD X.K X.mg W g) (tD X.K X.mg W h) σ H Q := by
  obtain ⟨G, env, fp, pv, rs, w⟩ := w
  refine ⟨G, env, fp, pv, rs, PostR.seq w fun x w vx G1 H1 e1 q1 => ⟨G1, env, fp, pv, rs.ext e1, ?_⟩⟩
  refine PostR.imp (PostR.seq (k := fun y => PostR X.mg W σ H (jP X.K X.mg Q G H) ((c.h x y).bind _)) w fun y w => w) e1.h fun y w vy G2 H2 e2 q2 => ?_
  have q1' := q1.mono e2.g e2.h
  show c.r X.K vx vy H2 _
  refine cop_ok (W := W) (σ := σ) e2.s q1' q2 c ?_
  refine PostR.imp (PostR.seq (k := fun z => PostR X.mg W σ H (jP X.K X.mg Q G H) _) w fun z w => w) (e1.h.trans e2.h) fun z w v G3 H3 e3 q3 => ?_
  · match z, q3, w with
    | .d (.bool true), .d q3, w =>
      cases q3
      refine ⟨true, rfl, ?_⟩
      show tD X.K X.mg W h σ H3 _
      refine ⟨G3, env, fp, pv, (rs.ext (e1.trans e2)).ext e3, ?_⟩
      refine PostR.imp (PostR.seq (k := fun z => PostR X.mg W σ H (jP X.K X.mg Q G H) (c'.h y z)) w fun y w => w) ((e1.h.trans e2.h).trans e3.h) fun z w vz G4 H4 e4 q4 => ?_
      exact cop_ok e4.s ((q2.mono e3.g e3.h).mono e4.g e4.h) q4 c' (PostR.imp w (((e1.h.trans e2.h).trans e3.h).trans e4.h) fun z q => jP.ext (((e1.trans e2).trans e3).trans e4) q)
    | .d (.bool false), .d q3, w =>
      cases q3
      exact ⟨false, rfl, jP.bool e3.s (jP.ext ((e1.trans e2).trans e3) w)⟩
    | .d .none, _, w => exact w.elim
    | .d (.int _), _, w => exact w.elim
    | .d (.str _), _, w => exact w.elim
    | .d (.list _), _, w => exact w.elim
    | .d (.tuple _), _, w => exact w.elim
    | .d (.dict _), _, w => exact w.elim
    | .ob _ _, _, w => exact w.elim
    | .sc _, _, w => exact w.elim
theorem vp_chain (k k' : Cop) {f g h : FD} (hu : X.A.units + 65 < cLine) (ha : VD X W a f) (hb : VD X W b g) (hc : VD X W c h) (hm : lastMarks [k.op, k'.op] [b, c] = false) : VP X W (.Compare a [k.op, k'.op] [b, c] pos) (vChain k k' f g h) :=
  pe_imp (pe_chain (cop_or hu k) (cop_or hu k') ha hb hc hm) fun σ H Q w => vp_chain_imp w
theorem vt_chain (k k' : Cop) {f g h : FD} (hu : X.A.units + 65 < cLine) (ha : VD X W a f) (hb : VD X W b g) (hc : VD X W c h) (hm : lastMarks [k.op, k'.op] [b, c] = false) : VT X W (.Compare a [k.op, k'.op] [b, c] pos) (toT (vChain k k' f g h)) :=
  pt_imp (pt_chain (cop_or hu k) (cop_or hu k') ha hb hc hm) fun σ H Q w => vp_chain_imp (tT_tP w)
/-- and, or, not: tests -/
abbrev VW (X : Cx) (W : WX) (e : Expr) (f : FT) : Prop := PW X e (tT X.K X.mg W f)
theorem pw_imp {t t' : TT} (h : PW X e t) (q : ∀ σ H Q, t' σ H Q → t σ H Q) : PW X e t' := ⟨fun wh pins s σ H Q I w => h.run wh pins s σ H Q I (q σ H Q w)⟩
def vAndT (f g : FT) : FT := fun env => (f env).bind fun b => if b = true then g env else .ok false
def vOrT (f g : FT) : FT := fun env => (f env).bind fun b => if b = true then .ok true else g env
def vNotT (f : FT) : FT := fun env => (f env).bind fun b => .ok (!b)
theorem vw_and1 {f : FT} (h : VT X W a f) : VW X W (.BoolOp .And [a] pos) f := pw_and1 h
theorem vw_or1 {f : FT} (h : VT X W a f) : VW X W (.BoolOp .Or [a] pos) f := pw_or1 h
theorem vw_and {f g : FT} {rest : List Expr} (ha : VT X W a f) (hb : VW X W (.BoolOp .And (b :: rest) pos) g) : VW X W (.BoolOp .And (a :: b :: rest) pos) (vAndT f g) :=
  pw_imp (pw_and ha hb) fun σ H Q ⟨G, env, fp, pv, rs, w⟩ => ⟨G, env, fp, pv, rs, PostR.seq w fun k w G1 H1 e1 => by
    cases k with
    | true => exact ⟨G1, env, fp, pv, rs.ext e1, PostR.imp w e1.h fun z w G2 H2 e2 => w G2 H2 (e1.trans e2)⟩
    | false => exact w G1 H1 e1⟩
theorem vw_or {f g : FT} {rest : List Expr} (ha : VT X W a f) (hb : VW X W (.BoolOp .Or (b :: rest) pos) g) : VW X W (.BoolOp .Or (a :: b :: rest) pos) (vOrT f g) :=
  pw_imp (pw_or ha hb) fun σ H Q ⟨G, env, fp, pv, rs, w⟩ => ⟨G, env, fp, pv, rs, PostR.seq w fun k w G1 H1 e1 => by
    cases k with
    | true => exact w G1 H1 e1
    | false => exact ⟨G1, env, fp, pv, rs.ext e1, PostR.imp w e1.h fun z w G2 H2 e2 => w G2 H2 (e1.trans e2)⟩⟩
theorem vt_w {f : FT} (h : VW X W e f) : VT X W e f := h.pt
theorem vt_not {f : FT} (h : VT X W a f) : VT X W (.UnaryOp .Not a pos) (vNotT f) := pt_imp (pt_not h) fun σ H Q ⟨G, env, fp, pv, rs, w⟩ => ⟨G, env, fp, pv, rs, PostR.seq w fun k w G1 H1 e1 => w G1 H1 e1⟩
/-- .. as values, of bools -/
def bB {α : Type} (k : Bool → Res α) : FV → Res α
  | .d (.bool b) => k b
  | _ => .bad
def vAnd (f g : FP) : FP := fun env => (f env).bind (bB fun b => if b = true then g env else iB false)
def vOr (f g : FP) : FP := fun env => (f env).bind (bB fun b => if b = true then iB true else g env)
def vNot (f : FP) : FP := fun env => (f env).bind (bB fun b => iB (!b))
theorem bB_ok {α : Type} {K : PySem.W.Frag} {mg : Str → Option Value} {G H : Hp} {σ : L2.St} {v : V} {x : FV} {k : Bool → Res α} {j : α → Prop} (q : Fq K mg G v x) (w : PostR mg W σ H j (bB k x)) : ∃ b, v = .bl b ∧ PostR mg W σ H j (k b) := by
  match x, q, w with
  | .d (.bool b), .d q, w => cases q; exact ⟨b, rfl, w⟩
  | .d .none, _, w => exact w.elim
  | .d (.int _), _, w => exact w.elim
  | .d (.str _), _, w => exact w.elim
  | .d (.list _), _, w => exact w.elim
  | .d (.tuple _), _, w => exact w.elim
  | .d (.dict _), _, w => exact w.elim
  | .ob _ _, _, w => exact w.elim
  | .sc _, _, w => exact w.elim
theorem vp_one {op} {f : FP} (h : VP X W a f) : VP X W (.BoolOp op [a] pos) f := pe_one h
theorem vp_and {f g : FP} {rest : List Expr} (ha : VP X W a f) (hb : VP X W (.BoolOp .And (b :: rest) pos) g) : VP X W (.BoolOp .And (a :: b :: rest) pos) (vAnd f g) :=
  pe_imp (pe_and ha hb) fun σ H Q ⟨G, env, fp, pv, rs, w⟩ => ⟨G, env, fp, pv, rs, PostR.seq w fun k w v G1 H1 e1 q1 => by
    obtain ⟨k, rfl, w⟩ := bB_ok q1 w
    refine ⟨k, rfl, ?_⟩
    cases k with
    | true => exact ⟨G1, env, fp, pv, rs.ext e1, PostR.imp w e1.h fun z w v G2 H2 e2 => w v G2 H2 (e1.trans e2)⟩
    | false => exact jP.bool e1.s (jP.ext e1 w)⟩
theorem vp_or {f g : FP} {rest : List Expr} (ha : VP X W a f) (hb : VP X W (.BoolOp .Or (b :: rest) pos) g) : VP X W (.BoolOp .Or (a :: b :: rest) pos) (vOr f g) :=
  pe_imp (pe_or ha hb) fun σ H Q ⟨G, env, fp, pv, rs, w⟩ => ⟨G, env, fp, pv, rs, PostR.seq w fun k w v G1 H1 e1 q1 => by
    obtain ⟨k, rfl, w⟩ := bB_ok q1 w
    refine ⟨k, rfl, ?_⟩
    cases k with
    | true => exact jP.bool e1.s (jP.ext e1 w)
    | false => exact ⟨G1, env, fp, pv, rs.ext e1, PostR.imp w e1.h fun z w v G2 H2 e2 => w v G2 H2 (e1.trans e2)⟩⟩
theorem vp_not {f : FP} (h : VP X W a f) : VP X W (.UnaryOp .Not a pos) (vNot f) := pe_imp (pe_not h) fun σ H Q ⟨G, env, fp, pv, rs, w⟩ => ⟨G, env, fp, pv, rs, PostR.seq w fun k w v G1 H1 e1 q1 => by
    obtain ⟨k, rfl, w⟩ := bB_ok q1 w
    exact ⟨k, rfl, jP.bool e1.s (jP.ext e1 w)⟩⟩
/-- a if c else b -/
def vIf {α : Type} (t : FT) (f g : Env → Res α) : Env → Res α := fun env => (t env).bind fun b => if b = true then f env else g env
theorem vp_if {t : FT} {f g : FP} (hc : VT X W c t) (ha : VP X W a f) (hb : VP X W b g) : VP X W (.IfExp c a b pos) (vIf t f g) :=
  pe_imp (pe_ifExp hc ha hb) fun σ H Q ⟨G, env, fp, pv, rs, w⟩ => ⟨G, env, fp, pv, rs, PostR.seq w fun k w G1 H1 e1 => by
    cases k with
    | true => exact ⟨G1, env, fp, pv, rs.ext e1, PostR.imp w e1.h fun z w v G2 H2 e2 => w v G2 H2 (e1.trans e2)⟩
    | false => exact ⟨G1, env, fp, pv, rs.ext e1, PostR.imp w e1.h fun z w v G2 H2 e2 => w v G2 H2 (e1.trans e2)⟩⟩
theorem vo_if {t : FT} {f g : FO} (hc : VT X W c t) (ha : VO X W a f) (hb : VO X W b g) : VO X W (.IfExp c a b pos) (vIf t f g) :=
  pe_imp (pe_ifExp hc ha hb) fun σ H Q ⟨G, env, fp, pv, rs, w⟩ => ⟨G, env, fp, pv, rs, PostR.seq w fun k w G1 H1 e1 => by
    cases k with
    | true => exact ⟨G1, env, fp, pv, rs.ext e1, PostR.imp w e1.h fun z w => jO.ext e1 w⟩
    | false => exact ⟨G1, env, fp, pv, rs.ext e1, PostR.imp w e1.h fun z w => jO.ext e1 w⟩⟩

/-! ### is None -/
def isN : PyData → Bool
  | .none => true
  | _ => false
theorem Dr.non_iff {K : PySem.W.Frag} {G H : Hp} {v : V} {p : PyData} (h : Dr K G H v p) : decide (v = .non) = isN p := by
  cases h with
  | fz h => cases h <;> simp [isN]
  | top _ _ => simp [isN]
theorem vp_isN {f : FD} {j} {p' : Pos} (ha : VD X W a f) : VP X W (.Compare a [.Is] [.Constant .none j p'] pos) (v1 (fun x => iB (isN x)) f) :=
  pe_imp (pe_cmpR op_isN ha pe_non (nomark _)) fun σ H Q ⟨G, env, fp, pv, rs, w⟩ => ⟨G, env, fp, pv, rs, PostR.seq w fun x w v G1 H1 e1 q1 => ⟨rfl, by
    have e := q1.non_iff
    have e' : decide (v = .non) = isN x := e
    rw [e']; exact jP.bool e1.s (jP.ext e1 w)⟩⟩
theorem vp_notN {f : FD} {j} {p' : Pos} (ha : VD X W a f) : VP X W (.Compare a [.IsNot] [.Constant .none j p'] pos) (v1 (fun x => iB (!isN x)) f) :=
  pe_imp (pe_cmpR op_notN ha pe_non (nomark _)) fun σ H Q ⟨G, env, fp, pv, rs, w⟩ => ⟨G, env, fp, pv, rs, PostR.seq w fun x w v G1 H1 e1 q1 => ⟨rfl, by
    have e := q1.non_iff
    have e' : decide (v = .non) = isN x := e
    rw [e']; exact jP.bool e1.s (jP.ext e1 w)⟩⟩
theorem vt_isN {f : FD} {j} {p' : Pos} (ha : VD X W a f) : VT X W (.Compare a [.Is] [.Constant .none j p'] pos) (toT (v1 (fun x => iB (isN x)) f)) :=
  pt_imp (pt_cmpR op_isN ha pe_non (nomark _)) fun σ H Q w => by
    obtain ⟨G, env, fp, pv, rs, w⟩ := tT_tP w
    exact ⟨G, env, fp, pv, rs, PostR.seq w fun x w v G1 H1 e1 q1 => ⟨rfl, by
      have e := q1.non_iff
      have e' : decide (v = .non) = isN x := e
      rw [e']; exact w _ G1 H1 e1 (.d (.bl _))⟩⟩
theorem vt_notN {f : FD} {j} {p' : Pos} (ha : VD X W a f) : VT X W (.Compare a [.IsNot] [.Constant .none j p'] pos) (toT (v1 (fun x => iB (!isN x)) f)) :=
  pt_imp (pt_cmpR op_notN ha pe_non (nomark _)) fun σ H Q w => by
    obtain ⟨G, env, fp, pv, rs, w⟩ := tT_tP w
    exact ⟨G, env, fp, pv, rs, PostR.seq w fun x w v G1 H1 e1 q1 => ⟨rfl, by
      have e := q1.non_iff
      have e' : decide (v = .non) = isN x := e
      rw [e']; exact w _ G1 H1 e1 (.d (.bl _))⟩⟩

/-! ### fields of what is frozen -/
def fldP (cn n : Str) : FV → Res FV
  | .ob c fs => if c = cn then (match fs.lookup n with | some p => .ok (.d p) | none => .bad) else .bad
  | _ => .bad
def vFld (cn n : Str) (f : FP) : FP := fun env => (f env).bind (fldP cn n)
theorem Dqf.look {K : PySem.W.Frag} {G : Hp} {n : Str} : ∀ {vs : List (Str × V)} {fs : List (Str × PyData)} {p : PyData}, Dqf K G vs fs → fs.lookup n = some p → ∃ v, vs.lookup n = some v ∧ Dq K G v p
  | _, _, _, .nil, h => by cases h
  | _, _, _, @Dqf.cons _ _ m v vs d ds h t, q => by
    by_cases e : (n == m) = true
    · simp only [List.lookup, e] at q ⊢
      cases q
      exact ⟨_, rfl, h⟩
    · have e' : (n == m) = false := by simpa using e
      simp only [List.lookup, e'] at q ⊢
      exact Dqf.look t q
/-- what a class must have for its fields to be read -/
def FldK (K : PySem.W.Frag) (mg : Str → Option Value) (c n : Str) : Prop :=
  ∀ C, mg c = some (.ref C) → Cls K C ∧ NoAttr K C n
abbrev FldOk (X : Cx) (c n : Str) : Prop := FldK X.K X.mg c n
theorem vp_fld {cn n : Str} {f : FP} (hc : FldOk X cn n) (ha : VP X W a f) (hb : attributeBase a n X.env (eval a X.env) = eval a X.env) : VP X W (.Attribute a n pos) (vFld cn n f) :=
  pe_imp (pe_fld ha hb) fun σ H Q ⟨G, env, fp, pv, rs, w⟩ => ⟨G, env, fp, pv, rs, PostR.seq w fun x w v G1 H1 e1 q1 => by
      match x, q1, w with
      | .ob c fs, .ob m h t, w =>
        have w0 : PostR X.mg W σ H (jP X.K X.mg Q G H) (if c = cn then (match fs.lookup n with | some p => .ok (.d p) | none => .bad) else .bad) := w
        by_cases ec : c = cn
        · rw [if_pos ec] at w0
          subst ec
          cases z2 : fs.lookup n with
          | none => rw [z2] at w0; exact w0.elim
          | some p =>
            rw [z2] at w0
            obtain ⟨u, hu, du⟩ := t.look z2
            obtain ⟨k1, k2⟩ := hc _ m
            exact ⟨_, _, _, _, u, rfl, e1.s _ _ h, k1, k2, hu, w0 u G1 H1 e1 (.d du)⟩
        · rw [if_neg ec] at w0; exact w0.elim
      | .d _, _, w => exact w.elim
      | .sc _, _, w => exact w.elim⟩

/-! ### places in lists, slices -/
def ixP : PyData → PyData → Res FV
  | .list ds, .int i => match atI ds i with | some d => .ok (.d d) | none => .bad
  | .tuple ds, .int i => match atI ds i with | some d => .ok (.d d) | none => .bad
  | _, _ => .bad
theorem Dqs.atI {K : PySem.W.Frag} {G : Hp} {vs : List V} {ds : List PyData} {i : Int} {d : PyData} (h : Dqs K G vs ds) (e : L2.atI ds i = some d) : ∃ v, L2.atI vs i = some v ∧ Dq K G v d := by
  unfold L2.atI at e ⊢
  rw [h.length]
  cases z : ixN ds.length i with
  | none => rw [z] at e; cases e
  | some j => rw [z] at e; exact h.get e
theorem vp_ix {f g : FD} (ha : VD X W a f) (hb : VD X W b g) (hs : PlainIx b) : VP X W (.Subscript a b pos) (v2 ixP f g) :=
  pe_imp (pe_ix (IxR.or ix_list ix_tup) ha hb hs) fun σ H Q ⟨G, env, fp, pv, rs, w⟩ => tD_bin (j := jP X.K X.mg Q) rfl rfl rs w jP.ext fun x y vx vy G H s hx hy w => by
    unfold ixP at w
    split at w
    · rename_i ds i
      cases z : atI ds i with
      | none => rw [z] at w; exact w.elim
      | some d =>
        rw [z] at w
        obtain ⟨p, vs, e1, h1, t1⟩ := hx.lst s
        obtain ⟨v, hv, dv⟩ := t1.atI z
        exact .inl ⟨p, vs, i, v, e1, hy.int, SqL.of h1, hv, w v G H (Ext.refl s) (.d dv)⟩
    · rename_i ds i
      cases z : atI ds i with
      | none => rw [z] at w; exact w.elim
      | some d =>
        rw [z] at w
        obtain ⟨p, vs, e1, h1, t1⟩ := hx.tup
        obtain ⟨v, hv, dv⟩ := t1.atI z
        exact .inr ⟨p, vs, i, v, e1, hy.int, sqt_mono s h1, hv, w v G H (Ext.refl s) (.d dv)⟩
    · exact w.elim
/-- the script at a place -/
def ixS (f : FP) (g : FD) : FP := fun env => (f env).bind fun
  | .sc ns => (g env).bind fun
    | .int i => match atI ns i with | some d => iI d | none => .bad
    | _ => .bad
  | _ => .bad
theorem atI_map {α β : Type} (k : α → β) (xs : List α) (i : Int) : atI (xs.map k) i = (atI xs i).map k := by
  unfold atI
  rw [List.length_map]
  cases ixN xs.length i with
  | none => rfl
  | some j => exact List.getElem?_map
theorem vp_ixS {f : FP} {g : FD} (ha : VP X W a f) (hb : VD X W b g) (hs : PlainIx b) : VP X W (.Subscript a b pos) (ixS f g) :=
  pe_imp (pe_ix ix_list ha hb hs) fun σ H Q ⟨G, env, fp, pv, rs, w⟩ => ⟨G, env, fp, pv, rs, PostR.seq w fun x w vx G1 H1 e1 q1 => by
    match x, q1, w with
    | .sc ns, .sc q1, w =>
      refine ⟨G1, env, fp, pv, rs.ext e1, PostR.imp (PostR.seq (k := fun y => PostR X.mg W σ H (jP X.K X.mg Q G H) _) w fun y w => w) e1.h fun y w vy G2 H2 e2 q2 => ?_⟩
      match y, q2, w with
      | .int i, q2, w =>
        have w' : PostR X.mg W σ H (jP X.K X.mg Q G H) (match atI ns i with | some d => iI d | none => .bad) := w
        cases z : atI ns i with
        | none => rw [z] at w'; exact w'.elim
        | some d =>
          rw [z] at w'
          exact ⟨_, ns.map V.int, i, .int d, rfl, q2.int, (e1.s.trans e2.h).seq q1, by rw [atI_map, z]; rfl, jP.int e2.s (jP.ext (e1.trans e2) w')⟩
      | .none, _, w => exact w.elim
      | .bool _, _, w => exact w.elim
      | .str _, _, w => exact w.elim
      | .list _, _, w => exact w.elim
      | .tuple _, _, w => exact w.elim
      | .dict _, _, w => exact w.elim
    | .d _, _, w => exact w.elim
    | .ob _ _, _, w => exact w.elim⟩
/-- a slice's parts -/
abbrev FI := Env → Res (Option Int)
def tI' (K : PySem.W.Frag) (mg : Str → Option Value) (W : WX) (f : FI) : L2.TO := fun σ H Q => ∃ G env fp pv, RS K mg G σ env H fp pv ∧
  PostR mg W σ H (fun x => ∀ G' H', Ext G H G' H' → Q x H') (f env)
abbrev VI' (X : Cx) (W : WX) (e : Option Expr) (f : FI) : Prop := L2.PO X e (tI' X.K X.mg W f)
def vNoPart : FI := fun _ => .ok none
def vPart (f : FD) : FI := fun env => (f env).bind fun | .int i => .ok (some i) | _ => .bad
theorem vi_none : VI' X W none vNoPart := po_imp po_none fun σ H Q ⟨G, env, fp, pv, rs, w⟩ => w G H (Ext.refl rs.sub)
theorem vi_some {f : FD} (h : VD X W e f) : VI' X W (some e) (vPart f) := po_imp (po_some h) fun σ H Q ⟨G, env, fp, pv, rs, w⟩ => ⟨G, env, fp, pv, rs, PostR.seq w fun x w v G1 H1 e1 q1 => by
  match x, q1, w with
  | .int i, q1, w => exact ⟨i, q1.int, w G1 H1 e1⟩
  | .none, _, w => exact w.elim
  | .bool _, _, w => exact w.elim
  | .str _, _, w => exact w.elim
  | .list _, _, w => exact w.elim
  | .tuple _, _, w => exact w.elim
  | .dict _, _, w => exact w.elim⟩
def cutP {α : Type} (xs : List α) (lo hi : Option Int) : List α := (xs.drop (HT.sIx xs.length 0 lo)).take (HT.sIx xs.length xs.length hi - HT.sIx xs.length 0 lo)
def slP (x : PyData) (lo hi : Option Int) : Res SV := match x with
  | .list ds => .ok (SV.dl (cutP ds lo hi))
  | .tuple ds => .ok (.f (.d (.tuple (cutP ds lo hi))))
  | _ => .bad
def vSl (f : FD) (lo hi : FI) : FO := fun env => (f env).bind fun x => (lo env).bind fun l => (hi env).bind fun h => slP x l h
theorem vo_sl {f : FD} {lo hi : Option Expr} {fl fh : FI} {p2 : Pos} (ha : VD X W a f) (hl : VI' X W lo fl) (hh : VI' X W hi fh) : VO X W (.Subscript a (.Slice lo hi none p2) pos) (vSl f fl fh) :=
  pe_imp (pe_slice (SlR.or sl_list sl_tupA) ha hl hh) fun σ H Q ⟨G, env, fp, pv, rs, w⟩ => ⟨G, env, fp, pv, rs, PostR.seq w fun x w vx G1 H1 e1 q1 =>
    ⟨G1, env, fp, pv, rs.ext e1, PostR.imp (PostR.seq (k := fun y => PostR X.mg W σ H (jO X.K X.mg Q G H) ((fh env).bind _)) w fun y w => w) e1.h fun l w G2 H2 e2 =>
      ⟨G2, env, fp, pv, rs.ext (e1.trans e2), PostR.imp (PostR.seq (k := fun y => PostR X.mg W σ H (jO X.K X.mg Q G H) _) w fun y w => w) (e1.h.trans e2.h) fun h w G3 H3 e3 => by
        have q3 := (q1.mono e2.g e2.h).mono e3.g e3.h
        match x, q3, w with
        | .none, _, w => exact w.elim
        | .bool _, _, w => exact w.elim
        | .int _, _, w => exact w.elim
        | .str _, _, w => exact w.elim
        | .dict _, _, w => exact w.elim
        | .list ds, q3, w =>
          obtain ⟨p, vs, ep, h1, t1⟩ := q3.lst e3.s
          refine .inl ⟨p, vs, ep, SqL.of h1, ?_⟩
          have e : Dqs X.K G3 (cutV vs l h) (cutP ds l h) := by
            unfold cutV cutP
            rw [t1.length]
            exact (t1.drop _).take _
          exact new_dl e3.s e (jO.ext ((e1.trans e2).trans e3) w)
        | .tuple ds, q3, w =>
          obtain ⟨p, vs, ep, h1, t1⟩ := q3.tup
          have e : Dqs X.K G3 (cutV vs l h) (cutP ds l h) := by
            unfold cutV cutP
            rw [t1.length]
            exact (t1.drop _).take _
          have w' := jO.f (jO.ext ((e1.trans e2).trans e3) w)
          refine .inr ⟨p, vs, ep, sqt_mono e3.s h1, fun z => ?_, fun _ => new_tup e3.s e w'⟩
          have ew : cutP ds l h = ds := by
            unfold cutP
            rw [t1.length] at z
            rw [z.1, z.2]
            simp
          rw [ew] at w'
          exact w' _ G3 H3 (Ext.refl e3.s) (.d (.tup h1 t1))⟩⟩⟩

/-! ### displays, arguments -/
def vNil : Env → Res (List PyData) := fun _ => .ok []
def vCons (f : FD) (g : Env → Res (List PyData)) : Env → Res (List PyData) := fun env => (f env).bind fun x => (g env).bind fun xs => .ok (x :: xs)
theorem va_nil : VA X W [] vNil := pa_imp pa_nil fun σ H Q ⟨G, env, fp, pv, rs, w⟩ => w [] G H (Ext.refl rs.sub) .nil
theorem va_cons {f : FP} {g : Env → Res (List PyData)} (ha : VP X W e f) (hr : VA X W es g) (hs : starEach (e :: es) X.env = (false, eval e X.env) :: starEach es X.env) : VA X W (e :: es) (vCons (toD f) g) :=
  pa_imp (pa_cons ha hr hs) fun σ H Q ⟨G, env, fp, pv, rs, w⟩ => ⟨G, env, fp, pv, rs, by
    have w' := PostR.seq (k := fun x => PostR X.mg W σ H _ ((g env).bind _)) w fun y w => w
    refine PostR.seq w' fun x w v G1 H1 e1 q1 => ?_
    match x, q1, w with
    | .d x, .d q1, w =>
      have w2 : PostR X.mg W σ H _ ((g env).bind _) := w
      exact ⟨G1, env, fp, pv, rs.ext e1, PostR.imp (PostR.seq (k := fun y => PostR X.mg W σ H _ (Res.ok (x :: y))) w2 fun y w => w) e1.h fun xs w vs G2 H2 e2 q2 => w (v :: vs) G2 H2 (e1.trans e2) (.cons (q1.mono e2.g) q2)⟩
    | .ob _ _, _, w => exact w.elim
    | .sc _, _, w => exact w.elim⟩
noncomputable def vLst (g : Env → Res (List PyData)) : FO := fun env => (g env).bind fun xs => cIf (xs.length ≤ 16777216) (.ok (SV.dl xs)) .bad
noncomputable def vTup (g : Env → Res (List PyData)) : FP := fun env => (g env).bind fun xs => cIf (xs.length ≤ 16777216) (.ok (.d (.tuple xs))) .bad
theorem vo_lst {g : Env → Res (List PyData)} (h : VA X W es g) : VO X W (.List es pos) (vLst g) := pe_imp (pe_lst h) fun σ H Q ⟨G, env, fp, pv, rs, w⟩ => ⟨G, env, fp, pv, rs, PostR.seq w fun xs w vs G1 H1 e1 q1 => by
  by_cases h : xs.length ≤ 16777216
  · rw [cIf_pos h] at w
    exact ⟨by rw [q1.length, sl_eq]; exact h, new_dl e1.s q1 (jO.ext e1 w)⟩
  · rw [cIf_neg h] at w; exact w.elim⟩
theorem vp_tup {g : Env → Res (List PyData)} {x1} (h : VA X W es g) : VP X W (.Tuple es x1 pos) (vTup g) := pe_imp (pe_tup h) fun σ H Q ⟨G, env, fp, pv, rs, w⟩ => ⟨G, env, fp, pv, rs, PostR.seq w fun xs w vs G1 H1 e1 q1 => by
  by_cases h : xs.length ≤ 16777216
  · rw [cIf_pos h] at w
    exact ⟨by rw [q1.length, sl_eq]; exact h, new_tup e1.s q1 (jP.ext e1 w)⟩
  · rw [cIf_neg h] at w; exact w.elim⟩
/-- one argument that is only read -/
theorem va_one {f : FD} {t : TA} (ha : VD X W e f) (hs : starEach [e] X.env = (false, eval e X.env) :: starEach [] X.env) : PA X [e] (tCons (tD X.K X.mg W f) tNil) := pa_cons ha pa_nil hs

/-! ### built-in functions of one value that is read -/
theorem vp_call1 {x : Str} {id : String} {r : List V → Hp → VK → Prop} {h : PyData → Res FV} {f : FD} {p : Pos} (hc : CallR X (.builtin id) r) (hg : Gl X x) (hm : X.mg x = none) (hv : bootBuiltins x = some (.builtin id)) (ha : VD X W e f)
    (hr : ∀ σ Q x vx G H, Same G H → Dr X.K G H vx x → PostR X.mg W σ H (jP X.K X.mg Q G H) (h x) → r [vx] H Q)
    (hn : x ≠ "__name__") (hdb : (x == ("__debug__" : Str)) = false) (he : starEach [e] X.env = (false, eval e X.env) :: starEach [] X.env) (hpl : (backTo pos (starEach [] X.env)).any (·.1) = false) : VP X W (.Call (.Name x p) [e] [] pos) (v1 h f) :=
  pe_imp (pe_callB hc hg hm hv (pa_cons ha pa_nil he) hn hdb he hpl) fun σ H Q ⟨G, env, fp, pv, rs, w⟩ => ⟨G, env, fp, pv, rs, PostR.seq w fun x w v G1 H1 e1 q1 =>
    hr σ Q x v G1 H1 e1.s q1 (PostR.imp w e1.h fun _ q => jP.ext e1 q)⟩
theorem vo_call1 {x : Str} {id : String} {r : List V → Hp → VK → Prop} {h : PyData → Res SV} {f : FD} {p : Pos} (hc : CallR X (.builtin id) r) (hg : Gl X x) (hm : X.mg x = none) (hv : bootBuiltins x = some (.builtin id)) (ha : VD X W e f)
    (hr : ∀ σ Q x vx G H, Same G H → Dr X.K G H vx x → PostR X.mg W σ H (jO X.K X.mg Q G H) (h x) → r [vx] H Q)
    (hn : x ≠ "__name__") (hdb : (x == ("__debug__" : Str)) = false) (he : starEach [e] X.env = (false, eval e X.env) :: starEach [] X.env) (hpl : (backTo pos (starEach [] X.env)).any (·.1) = false) : VO X W (.Call (.Name x p) [e] [] pos) (v1 h f) :=
  pe_imp (pe_callB hc hg hm hv (pa_cons ha pa_nil he) hn hdb he hpl) fun σ H Q ⟨G, env, fp, pv, rs, w⟩ => ⟨G, env, fp, pv, rs, PostR.seq w fun x w v G1 H1 e1 q1 =>
    hr σ Q x v G1 H1 e1.s q1 (PostR.imp w e1.h fun _ q => jO.ext e1 q)⟩
theorem vo_callT1 {x : Str} {T : String} {r : List V → Hp → VK → Prop} {h : PyData → Res SV} {f : FD} {p : Pos} (hc : CallR X (.type T) r) (hg : Gl X x) (hm : X.mg x = none) (hv : bootBuiltins x = some (.type T)) (ha : VD X W e f)
    (hr : ∀ σ Q x vx G H, Same G H → Dr X.K G H vx x → PostR X.mg W σ H (jO X.K X.mg Q G H) (h x) → r [vx] H Q)
    (hn : x ≠ "__name__") (hdb : (x == ("__debug__" : Str)) = false) (he : starEach [e] X.env = (false, eval e X.env) :: starEach [] X.env) (hpl : (backTo pos (starEach [] X.env)).any (·.1) = false) : VO X W (.Call (.Name x p) [e] [] pos) (v1 h f) :=
  pe_imp (pe_callTy hc hg hm hv (pa_cons ha pa_nil he) hn hdb he hpl) fun σ H Q ⟨G, env, fp, pv, rs, w⟩ => ⟨G, env, fp, pv, rs, PostR.seq w fun x w v G1 H1 e1 q1 =>
    hr σ Q x v G1 H1 e1.s q1 (PostR.imp w e1.h fun _ q => jO.ext e1 q)⟩
def lenP : PyData → Res FV
  | .list ds => iI ds.length
  | .tuple ds => iI ds.length
  | _ => .bad
theorem vp_len {f : FD} {p : Pos} (hm : X.mg "len" = none) (ha : VD X W e f) (hg : Gl X "len" := by rfl) (he : starEach [e] X.env = (false, eval e X.env) :: starEach [] X.env := by rfl) (hpl : (backTo pos (starEach [] X.env)).any (·.1) = false := by rfl) : VP X W (.Call (.Name "len" p) [e] [] pos) (v1 lenP f) :=
  vp_call1 call_len_seq hg hm boot_len ha (fun σ Q x vx G H s hx w => by
    unfold lenP at w
    split at w
    · obtain ⟨p, vs, e1, h1, t1⟩ := hx.lst s
      subst e1
      exact ⟨p, vs, rfl, .inl (SqL.of h1), by rw [t1.length]; exact jP.int s w⟩
    · obtain ⟨p, vs, e1, h1, t1⟩ := hx.tup
      subst e1
      exact ⟨p, vs, rfl, .inr (sqt_mono s h1), by rw [t1.length]; exact jP.int s w⟩
    · exact w.elim) (by decide) (by decide) he hpl
/-- sums, all -/
def intsOf : List PyData → Option (List Int)
  | [] => some []
  | .int i :: r => (intsOf r).map (i :: ·)
  | _ => none
def boolsOf : List PyData → Option (List Bool)
  | [] => some []
  | .bool i :: r => (boolsOf r).map (i :: ·)
  | _ => none
theorem intsOf_eq : ∀ {ds : List PyData} {ns : List Int}, intsOf ds = some ns → ds = ns.map .int
  | [], _, h => by cases h; rfl
  | .int i :: r, ns, h => by
    have h' : (intsOf r).map (i :: ·) = some ns := h
    cases z : intsOf r with
    | none => rw [z] at h'; cases h'
    | some ms => rw [z] at h'; cases h'; rw [intsOf_eq z]; rfl
  | .none :: _, _, h => by cases h
  | .bool _ :: _, _, h => by cases h
  | .str _ :: _, _, h => by cases h
  | .list _ :: _, _, h => by cases h
  | .tuple _ :: _, _, h => by cases h
  | .dict _ :: _, _, h => by cases h
theorem boolsOf_eq : ∀ {ds : List PyData} {ns : List Bool}, boolsOf ds = some ns → ds = ns.map .bool
  | [], _, h => by cases h; rfl
  | .bool i :: r, ns, h => by
    have h' : (boolsOf r).map (i :: ·) = some ns := h
    cases z : boolsOf r with
    | none => rw [z] at h'; cases h'
    | some ms => rw [z] at h'; cases h'; rw [boolsOf_eq z]; rfl
  | .none :: _, _, h => by cases h
  | .int _ :: _, _, h => by cases h
  | .str _ :: _, _, h => by cases h
  | .list _ :: _, _, h => by cases h
  | .tuple _ :: _, _, h => by cases h
  | .dict _ :: _, _, h => by cases h
theorem intsOf_map (ns : List Int) : intsOf (ns.map .int) = some ns := by
  induction ns with
  | nil => rfl
  | cons n ns ih => show (intsOf (ns.map .int)).map _ = _; rw [ih]; rfl
theorem boolsOf_map (ns : List Bool) : boolsOf (ns.map .bool) = some ns := by
  induction ns with
  | nil => rfl
  | cons n ns ih => show (boolsOf (ns.map .bool)).map _ = _; rw [ih]; rfl
def sumP : PyData → Res FV
  | .list ds => match intsOf ds with | some ns => iI ns.sum | none => .bad
  | _ => .bad
def allP : PyData → Res FV
  | .list ds => match boolsOf ds with | some ns => iB (ns.all id) | none => .bad
  | _ => .bad
theorem vp_sum {f : FD} {p : Pos} (hc : X.calm = true) (hm : X.mg "sum" = none) (ha : VD X W e f) (hg : Gl X "sum" := by rfl) (he : starEach [e] X.env = (false, eval e X.env) :: starEach [] X.env := by rfl) (hpl : (backTo pos (starEach [] X.env)).any (·.1) = false := by rfl) : VP X W (.Call (.Name "sum" p) [e] [] pos) (v1 sumP f) :=
  vp_call1 (cr_sum hc) hg hm (by decide +kernel) ha (fun σ Q x vx G H s hx w => by
    unfold sumP at w
    split at w
    · rename_i ds
      cases z : intsOf ds with
      | none => rw [z] at w; exact w.elim
      | some ns =>
        rw [z] at w
        obtain ⟨p, vs, e1, h1, t1⟩ := hx.lst s
        rw [intsOf_eq z] at t1
        rw [t1.ints] at h1
        subst e1
        exact ⟨p, ns, rfl, SqL.of h1, jP.int s w⟩
    · exact w.elim) (by decide) (by decide) he hpl
theorem vp_all {f : FD} {p : Pos} (hc : X.calm = true) (hm : X.mg "all" = none) (ha : VD X W e f) (hg : Gl X "all" := by rfl) (he : starEach [e] X.env = (false, eval e X.env) :: starEach [] X.env := by rfl) (hpl : (backTo pos (starEach [] X.env)).any (·.1) = false := by rfl) : VP X W (.Call (.Name "all" p) [e] [] pos) (v1 allP f) :=
  vp_call1 (cr_all hc) hg hm (by decide +kernel) ha (fun σ Q x vx G H s hx w => by
    unfold allP at w
    split at w
    · rename_i ds
      cases z : boolsOf ds with
      | none => rw [z] at w; exact w.elim
      | some ns =>
        rw [z] at w
        obtain ⟨p, vs, e1, h1, t1⟩ := hx.lst s
        rw [boolsOf_eq z] at t1
        rw [t1.bools] at h1
        subst e1
        exact ⟨p, ns, rfl, SqL.of h1, jP.bool s w⟩
    · exact w.elim) (by decide) (by decide) he hpl
/-- a copy; sorted whole numbers -/
def listP : PyData → Res SV
  | .list ds => .ok (SV.dl ds)
  | .tuple ds => .ok (SV.dl ds)
  | _ => .bad
theorem vo_list {f : FD} {p : Pos} (hm : X.mg "list" = none) (ha : VD X W e f) (hg : Gl X "list" := by rfl) (he : starEach [e] X.env = (false, eval e X.env) :: starEach [] X.env := by rfl) (hpl : (backTo pos (starEach [] X.env)).any (·.1) = false := by rfl) : VO X W (.Call (.Name "list" p) [e] [] pos) (v1 listP f) :=
  vo_callT1 call_list_of hg hm boot_list ha (fun σ Q x vx G H s hx w => by
    unfold listP at w
    split at w
    · obtain ⟨p, vs, e1, h1, t1⟩ := hx.lst s
      subst e1
      exact ⟨p, vs, rfl, .inl (SqL.of h1), new_dl s t1 w⟩
    · obtain ⟨p, vs, e1, h1, t1⟩ := hx.tup
      subst e1
      exact ⟨p, vs, rfl, .inr (sqt_mono s h1), new_dl s t1 w⟩
    · exact w.elim) (by decide) (by decide) he hpl
def insI (x : Int) : List Int → List Int
  | [] => [x]
  | y :: r => if x ≤ y then x :: y :: r else y :: insI x r
def srtI : List Int → List Int
  | [] => []
  | x :: r => insI x (srtI r)
theorem insI_perm (x : Int) : ∀ l : List Int, (insI x l).Perm (x :: l)
  | [] => .refl _
  | y :: r => by
    unfold insI
    split
    · exact .refl _
    · exact ((insI_perm x r).cons y).trans (.swap x y r)
theorem srtI_perm : ∀ l : List Int, (srtI l).Perm l
  | [] => .refl _
  | x :: r => (insI_perm x (srtI r)).trans ((srtI_perm r).cons x)
theorem insI_le (x : Int) : ∀ l : List Int, l.Pairwise (· ≤ ·) → (insI x l).Pairwise (· ≤ ·)
  | [], _ => by simp [insI]
  | y :: r, h => by
    have h' := List.pairwise_cons.mp h
    unfold insI
    split
    · rename_i hxy
      exact List.pairwise_cons.mpr ⟨fun z m => by
        rcases List.mem_cons.mp m with rfl | m
        · exact hxy
        · exact Int.le_trans hxy (h'.1 z m), h⟩
    · rename_i hxy
      refine List.pairwise_cons.mpr ⟨fun z m => ?_, insI_le x r h'.2⟩
      rcases List.mem_cons.mp ((insI_perm x r).mem_iff.mp m) with rfl | m
      · omega
      · exact h'.1 z m
theorem srtI_le : ∀ l : List Int, (srtI l).Pairwise (· ≤ ·)
  | [] => .nil
  | x :: r => insI_le x _ (srtI_le r)
theorem sorted_eq : ∀ {l m : List Int}, l.Perm m → l.Pairwise (· ≤ ·) → m.Pairwise (· ≤ ·) → l = m
  | [], m, p, _, _ => (List.nil_perm.mp p).symm
  | x :: l, m, p, h1, h2 => by
    cases m with
    | nil => exact absurd p.length_eq (by simp)
    | cons y m =>
      have a1 := List.pairwise_cons.mp h1
      have a2 := List.pairwise_cons.mp h2
      have e : x = y := by
        have m1 : x ∈ y :: m := p.mem_iff.mp List.mem_cons_self
        have m2 : y ∈ x :: l := p.mem_iff.mpr List.mem_cons_self
        rcases List.mem_cons.mp m1 with q | q
        · exact q
        · rcases List.mem_cons.mp m2 with q2 | q2
          · exact q2.symm
          · exact Int.le_antisymm (a1.1 y q2) (a2.1 x q)
      subst e
      rw [sorted_eq (List.Perm.cons_inv p) a1.2 a2.2]
def sortP : PyData → Res SV
  | .list ds => match intsOf ds with | some ns => .ok (SV.dl ((srtI ns).map .int)) | none => .bad
  | _ => .bad
theorem vo_sorted {f : FD} {p : Pos} (hm : X.mg "sorted" = none) (ha : VD X W e f) (hg : Gl X "sorted" := by rfl) (he : starEach [e] X.env = (false, eval e X.env) :: starEach [] X.env := by rfl) (hpl : (backTo pos (starEach [] X.env)).any (·.1) = false := by rfl) : VO X W (.Call (.Name "sorted" p) [e] [] pos) (v1 sortP f) :=
  vo_call1 cr_sortedI hg hm boot_sorted ha (fun σ Q x vx G H s hx w => by
    unfold sortP at w
    split at w
    · rename_i ds
      cases z : intsOf ds with
      | none => rw [z] at w; exact w.elim
      | some ns =>
        rw [z] at w
        obtain ⟨p, vs, e1, h1, t1⟩ := hx.lst s
        rw [intsOf_eq z] at t1
        rw [t1.ints] at h1
        subst e1
        refine ⟨p, ns, rfl, SqL.of h1, fun ns' l pm sr hl => ?_⟩
        have e : ns' = srtI ns := sorted_eq (pm.trans (srtI_perm ns).symm) sr (srtI_le ns)
        subst e
        exact new_dl s (Dqs.of_ints _) w l hl
    · exact w.elim) (by decide) (by decide) he hpl
/-- int of a bool or a whole number -/
def intP : PyData → Res SV
  | .int i => .ok (.f (.d (.int i)))
  | .bool b => .ok (.f (.d (.int (if b then 1 else 0))))
  | _ => .bad
theorem vo_int {f : FD} {p : Pos} (hm : X.mg "int" = none) (ha : VD X W e f) (hg : Gl X "int" := by rfl) (he : starEach [e] X.env = (false, eval e X.env) :: starEach [] X.env := by rfl) (hpl : (backTo pos (starEach [] X.env)).any (·.1) = false := by rfl) : VO X W (.Call (.Name "int" p) [e] [] pos) (v1 intP f) :=
  vo_callT1 call_int1 hg hm boot_int ha (fun σ Q x vx G H s hx w => by
    unfold intP at w
    split at w
    · have e1 := hx.int
      subst e1
      exact .inl ⟨_, rfl, jP.int s (jO.f w)⟩
    · have e1 := hx.bool
      subst e1
      exact .inr ⟨_, rfl, jP.int s (jO.f w)⟩
    · exact w.elim) (by decide) (by decide) he hpl
/-- max, min of two -/
def maxI : PyData → PyData → Res FV
  | .int i, .int j => iI (if j > i then j else i)
  | _, _ => .bad
def minI : PyData → PyData → Res FV
  | .int i, .int j => iI (if j < i then j else i)
  | _, _ => .bad
theorem vp_call2 {x : Str} {id : String} {r : List V → Hp → VK → Prop} {h : PyData → PyData → Res FV} {f g : FD} {p : Pos} (hc : CallR X (.builtin id) r) (hg : Gl X x) (hm : X.mg x = none) (hv : bootBuiltins x = some (.builtin id)) (ha : VD X W a f) (hb : VD X W b g)
    (hr : ∀ σ Q x y vx vy G H, Same G H → Dr X.K G H vx x → Dr X.K G H vy y → PostR X.mg W σ H (jP X.K X.mg Q G H) (h x y) → r [vx, vy] H Q)
    (hn : x ≠ "__name__") (hdb : (x == ("__debug__" : Str)) = false) (he : starEach [a, b] X.env = (false, eval a X.env) :: starEach [b] X.env) (he2 : starEach [b] X.env = (false, eval b X.env) :: starEach [] X.env) (hpl : (backTo pos (starEach [b] X.env)).any (·.1) = false) : VP X W (.Call (.Name x p) [a, b] [] pos) (v2 h f g) :=
  pe_imp (pe_callB hc hg hm hv (pa_cons ha (pa_cons hb pa_nil he2) he) hn hdb he hpl) fun σ H Q ⟨G, env, fp, pv, rs, w⟩ =>
    (tD_bin (r := fun x y H Q => r [x, y] H Q) (j := jP X.K X.mg Q) rfl rfl rs w jP.ext (hr σ Q) :)
theorem vp_max {f g : FD} {p : Pos} (hc : X.calm = true) (hm : X.mg "max" = none) (ha : VD X W a f) (hb : VD X W b g) (hg : Gl X "max" := by rfl) (he : starEach [a, b] X.env = (false, eval a X.env) :: starEach [b] X.env := by rfl) (he2 : starEach [b] X.env = (false, eval b X.env) :: starEach [] X.env := by rfl) (hpl : (backTo pos (starEach [b] X.env)).any (·.1) = false := by rfl) : VP X W (.Call (.Name "max" p) [a, b] [] pos) (v2 maxI f g) :=
  vp_call2 (call_max2 hc) hg hm (by decide +kernel) ha hb (fun σ Q x y vx vy G H s hx hy w => by
    unfold maxI at w
    split at w
    · have e1 := hx.int
      have e2 := hy.int
      subst e1 e2
      exact ⟨_, _, rfl, jP.int s w⟩
    · exact w.elim) (by decide) (by decide) he he2 hpl
theorem vp_min {f g : FD} {p : Pos} (hc : X.calm = true) (hm : X.mg "min" = none) (ha : VD X W a f) (hb : VD X W b g) (hg : Gl X "min" := by rfl) (he : starEach [a, b] X.env = (false, eval a X.env) :: starEach [b] X.env := by rfl) (he2 : starEach [b] X.env = (false, eval b X.env) :: starEach [] X.env := by rfl) (hpl : (backTo pos (starEach [b] X.env)).any (·.1) = false := by rfl) : VP X W (.Call (.Name "min" p) [a, b] [] pos) (v2 minI f g) :=
  vp_call2 (call_min2 hc) hg hm (by decide +kernel) ha hb (fun σ Q x y vx vy G H s hx hy w => by
    unfold minI at w
    split at w
    · have e1 := hx.int
      have e2 := hy.int
      subst e1 e2
      exact ⟨_, _, rfl, jP.int s w⟩
    · exact w.elim) (by decide) (by decide) he he2 hpl
/-- the script's length -/
def vLenS (f : FP) : FP := fun env => (f env).bind fun | .sc ns => iI ns.length | _ => .bad
theorem vp_lenS {f : FP} {p : Pos} (hm : X.mg "len" = none) (ha : VP X W e f) (hg : Gl X "len" := by rfl) (he : starEach [e] X.env = (false, eval e X.env) :: starEach [] X.env := by rfl) (hpl : (backTo pos (starEach [] X.env)).any (·.1) = false := by rfl) : VP X W (.Call (.Name "len" p) [e] [] pos) (vLenS f) :=
  pe_imp (pe_callB call_len_seq hg hm boot_len (pa_cons ha pa_nil he) (by decide) (by decide) he hpl) fun σ H Q ⟨G, env, fp, pv, rs, w⟩ => ⟨G, env, fp, pv, rs, PostR.seq w fun x w v G1 H1 e1 q1 => by
    match x, q1, w with
    | .sc ns, .sc q1, w => exact ⟨_, ns.map V.int, rfl, .inl (e1.s.seq q1), by rw [List.length_map]; exact jP.int e1.s (jP.ext e1 w)⟩
    | .d _, _, w => exact w.elim
    | .ob _ _, _, w => exact w.elim⟩
end
end VL

set_option Elab.async false
set_option linter.all false
set_option maxRecDepth 100000
set_option maxHeartbeats 4000000
namespace VL
open PySem PySem.Spec PyProof.Rows L2

/-! ### steps of the state -/
structure Stp (G H : Hp) (fp : Nat → List Addr) (G' H' : Hp) (fp' : Nat → List Addr) : Prop where
  g : Same G G'
  fr : ∀ b o, H b = some o → (∀ i, b ∉ fp i) → H' b = some o
  n : ∀ a o, G' a = some o → G a = some o ∨ H a = none ∨ ∃ i, a ∈ fp i
  f : ∀ i a, a ∈ fp' i → H a = none ∨ ∃ j, a ∈ fp j
  trk : ∀ b, H' b = none → H b = none
  fld : ∀ a C dx vs, H a = some (.ins C dx vs) → ∃ vs', H' a = some (.ins C dx vs') ∧ ∀ (f : Str) x, f ≠ "chance" → vs.lookup f = some x → vs'.lookup f = some x
section
variable {K : PySem.W.Frag} {mg : Str → Option Value} {G G' G2 H H' H2 : Hp} {fp fp' fp2 : Nat → List Addr} {σ σ' : L2.St} {env env' : Env} {pv : Nat → V}
theorem Stp.of_ext (e : Ext G H G' H') : Stp G H fp G' H' fp where
  g := e.g
  fr := fun b o h _ => e.h b o h
  n := fun a o h => by
    rcases e.n a o h with q | q
    · exact .inl q
    · exact .inr (.inl q)
  f := fun i a m => .inr ⟨i, m⟩
  trk := fun b h => none_back e.h h
  fld := fun a C dx vs h => ⟨vs, e.h _ _ h, fun _ _ _ q => q⟩
theorem Stp.refl (s : Same G H) : Stp G H fp G H fp := Stp.of_ext (Ext.refl s)
theorem Stp.trans (a : Stp G H fp G' H' fp') (b : Stp G' H' fp' G2 H2 fp2) : Stp G H fp G2 H2 fp2 where
  g := a.g.trans b.g
  fr := fun c o h n => by
    refine b.fr c o (a.fr c o h n) fun i m => ?_
    rcases a.f i c m with q | ⟨j, q⟩
    · rw [h] at q; cases q
    · exact n j q
  n := fun c o h => by
    rcases b.n c o h with q | q | ⟨i, q⟩
    · exact a.n c o q
    · exact .inr (.inl (a.trk c q))
    · rcases a.f i c q with q | q
      · exact .inr (.inl q)
      · exact .inr (.inr q)
  f := fun i c m => by
    rcases b.f i c m with q | ⟨j, q⟩
    · exact .inl (a.trk c q)
    · exact a.f j c q
  trk := fun c h => a.trk c (b.trk c h)
  fld := fun c C dx vs h => by
    obtain ⟨vs1, h1, k1⟩ := a.fld c C dx vs h
    obtain ⟨vs2, h2, k2⟩ := b.fld c C dx vs1 h1
    exact ⟨vs2, h2, fun f x hf q => k2 f x hf (k1 f x hf q)⟩
/-- fewer footprints behind -/
theorem Stp.sub (a : Stp G H fp G' H' fp') (h : ∀ i b, b ∈ fp2 i → H b = none ∨ ∃ j, b ∈ fp j) : Stp G H fp G' H' fp2 := ⟨a.g, a.fr, a.n, h, a.trk, a.fld⟩

/-! ### statements -/
abbrev ST := Env → Flow
def Post (K : PySem.W.Frag) (mg : Str → Option Value) (W : WX) (D : Ends) (G H : Hp) (fp : Nat → List Addr) (pv : Nat → V) : Flow → Prop
  | .nx e => ∀ G' σ' H' fp', Stp G H fp G' H' fp' → RS K mg G' σ' e H' fp' pv → D.nx σ' H'
  | .rt s e => ∀ v G' σ' H' fp' r, Stp G H fp G' H' fp' → RS K mg G' σ' e H' fp' pv → Ow K mg G' H' v s r → r.Nodup → (∀ a ∈ r, G' a = none ∧ (∀ i, a ∉ fp' i) ∧ (H a = none ∨ ∃ j, a ∈ fp j)) → D.rt v H'
  | .err c e => ∀ C G' σ' H' fp', mg c = some (.ref C) → Stp G H fp G' H' fp' → RS K mg G' σ' e H' fp' pv → W (.ref C) none σ' H'
  | .bad => False
theorem Post.step {W : WX} {D : Ends} {f : Flow} (s : Stp G H fp G' H' fp') (h : Post K mg W D G H fp pv f) : Post K mg W D G' H' fp' pv f := by
  cases f with
  | nx e => exact fun G2 σ2 H2 fp2 s2 r => h G2 σ2 H2 fp2 (s.trans s2) r
  | rt x e =>
    refine fun v G2 σ2 H2 fp2 r s2 rs ow nd fr => h v G2 σ2 H2 fp2 r (s.trans s2) rs ow nd fun a m => ?_
    obtain ⟨a1, a2, a3⟩ := fr a m
    refine ⟨a1, a2, ?_⟩
    rcases a3 with q | ⟨j, q⟩
    · exact .inl (s.trk a q)
    · exact s.f j a q
  | err c e => exact fun C G2 σ2 H2 fp2 m s2 r => h C G2 σ2 H2 fp2 m (s.trans s2) r
  | bad => exact h
def tS (K : PySem.W.Frag) (mg : Str → Option Value) (W : WX) (f : ST) : TS := fun D σ H => ∃ G env fp pv, RS K mg G σ env H fp pv ∧ Post K mg W D G H fp pv (f env)
def ofR {α : Type} (r : Res α) (e : Env) (k : α → Flow) : Flow := match r with
  | .ok a => k a
  | .err c => .err c e
  | .bad => .bad
/-- from an expression's answer -/
theorem Post.ofR {α : Type} {W : WX} {D : Ends} {r : Res α} {k : α → Flow} {j : α → Prop} (rs : RS K mg G σ env H fp pv) (h : Post K mg W D G H fp pv (ofR r env k)) (q : ∀ a, Post K mg W D G H fp pv (k a) → j a) : PostR mg W σ H j r := by
  cases r with
  | ok a => exact q a h
  | err c => exact fun C H' m s => h C G σ H' fp m (Stp.of_ext ⟨Same.refl _, s, rs.sub.trans s, fun _ _ e => .inl e⟩) (rs.same s)
  | bad => exact h

theorem RS.notin (h : RS K mg G σ env H fp pv) {a : Addr} (n : H a = none) (j : Nat) : a ∉ fp j := fun m => by
  obtain ⟨o, ho⟩ := h.there j a m
  rw [n] at ho
  cases ho

/-! ### slots stored -/
theorem RS.set {i : Nat} {v : V} {s : SV} {r : List Addr} (h : RS K mg G σ env H fp pv) (hi : i < env.length) (ow : Ow K mg G H v s r) (nd : r.Nodup) (hr : ∀ a ∈ r, G a = none ∧ ∀ j, a ∉ fp j) :
    RS K mg G (σ.set i (some v)) (env.set i (.va s)) H (fun j => if j = i then r else fp j) pv where
  len := by rw [List.length_set, List.length_set]; exact h.len
  rel := fun j u e => by
    by_cases q : j = i
    · subst q
      rw [List.getElem?_set_self hi] at e
      cases e
      rw [List.getElem?_set_self (by rw [← h.len]; exact hi)]
      exact ⟨v, rfl, by rw [if_pos rfl]; exact ow⟩
    · rw [List.getElem?_set_ne (Ne.symm q)] at e
      rw [List.getElem?_set_ne (Ne.symm q), if_neg q]
      exact h.rel j u e
  nil := fun j hj => by
    rw [List.length_set] at hj
    show (if j = i then r else fp j) = []
    rw [if_neg (by omega)]
    exact h.nil j hj
  sub := h.sub
  out := fun j a m => by
    by_cases q : j = i
    · rw [if_pos q] at m; exact (hr a m).1
    · rw [if_neg q] at m; exact h.out j a m
  nd := fun j => by
    show (if j = i then r else fp j).Nodup
    by_cases q : j = i
    · rw [if_pos q]; exact nd
    · rw [if_neg q]; exact h.nd j
  dj := fun j k a m1 m2 => by
    by_cases q1 : j = i
    · rw [if_pos q1] at m1
      by_cases q2 : k = i
      · rw [q1, q2]
      · rw [if_neg q2] at m2; exact absurd m2 ((hr a m1).2 k)
    · rw [if_neg q1] at m1
      by_cases q2 : k = i
      · rw [if_pos q2] at m2; exact absurd m1 ((hr a m2).2 j)
      · rw [if_neg q2] at m2; exact h.dj j k a m1 m2
/-- a slot forgotten -/
theorem RS.drop (h : RS K mg G σ env H fp pv) (i : Nat) : RS K mg G σ (env.set i .no) H (fun j => if j = i then [] else fp j) pv where
  len := by rw [List.length_set]; exact h.len
  rel := fun j u e => by
    by_cases q : j = i
    · subst q
      by_cases hi : j < env.length
      · rw [List.getElem?_set_self hi] at e
        cases e
        show (if j = j then [] else fp j) = []
        rw [if_pos rfl]
      · rw [List.getElem?_eq_none (by rw [List.length_set]; omega)] at e; cases e
    · rw [List.getElem?_set_ne (Ne.symm q)] at e
      rw [if_neg q]
      exact h.rel j u e
  nil := fun j hj => by
    rw [List.length_set] at hj
    show (if j = i then [] else fp j) = []
    by_cases q : j = i
    · rw [if_pos q]
    · rw [if_neg q]; exact h.nil j hj
  sub := h.sub
  out := fun j a m => by
    by_cases q : j = i
    · rw [if_pos q] at m; cases m
    · rw [if_neg q] at m; exact h.out j a m
  nd := fun j => by
    show (if j = i then [] else fp j).Nodup
    by_cases q : j = i
    · rw [if_pos q]; exact .nil
    · rw [if_neg q]; exact h.nd j
  dj := fun j k a m1 m2 => by
    by_cases q1 : j = i
    · rw [if_pos q1] at m1; cases m1
    · rw [if_neg q1] at m1
      by_cases q2 : k = i
      · rw [if_pos q2] at m2; cases m2
      · rw [if_neg q2] at m2; exact h.dj j k a m1 m2
theorem sub_ite {i : Nat} {r : List Addr} (hr : ∀ a ∈ r, H a = none ∨ ∃ j, a ∈ fp j) : ∀ j a, a ∈ (if j = i then r else fp j) → H a = none ∨ ∃ j, a ∈ fp j := fun j a m => by
  by_cases q : j = i
  · rw [if_pos q] at m; exact hr a m
  · rw [if_neg q] at m; exact .inr ⟨j, m⟩
/-- may the slot be stored -/
def canSet (e : Env) (i : Nat) : Bool := match e[i]? with
  | some (.rf _) => false
  | some _ => true
  | none => false
theorem canSet_lt {e : Env} {i : Nat} (h : canSet e i = true) : i < e.length := by
  unfold canSet at h
  cases q : e[i]? with
  | none => rw [q] at h; cases h
  | some s => exact (List.getElem?_eq_some_iff.mp q).1
def setS (e : Env) (i : Nat) (s : Slot) : Flow := if canSet e i = true then .nx (e.set i s) else .bad
theorem post_set {W : WX} {D : Ends} {i : Nat} {v : V} {s : SV} {r : List Addr} (rs : RS K mg G σ env H fp pv) (ow : Ow K mg G H v s r) (nd : r.Nodup) (hr : ∀ a ∈ r, G a = none ∧ ∀ j, a ∉ fp j)
    {G0 H0 : Hp} (st : Stp G0 H0 fp G H fp) (hn : ∀ a ∈ r, H0 a = none ∨ ∃ j, a ∈ fp j)
    (h : Post K mg W D G0 H0 fp pv (setS env i (.va s))) : D.nx (σ.set i (some v)) H := by
  unfold setS at h
  by_cases c : canSet env i = true
  · rw [if_pos c] at h
    exact h G _ H _ (st.sub (sub_ite hn)) (rs.set (canSet_lt c) ow nd hr)
  · rw [if_neg c] at h; exact h.elim
end

section
variable {X : Cx} {W : WX} {a b c e : Expr} {es : List Expr} {pos : Pos} {st : Stmt} {sts : List Stmt}
abbrev VS (X : Cx) (W : WX) (st : Stmt) (f : ST) : Prop := PS X st (tS X.K X.mg W f)
abbrev VSs (X : Cx) (W : WX) (st : List Stmt) (f : ST) : Prop := PSs X st (tS X.K X.mg W f)
def vSkip : ST := fun e => .nx e
def vSeq (f g : ST) : ST := fun e => match f e with
  | .nx e => g e
  | r => r
theorem vss_nil : VSs X W [] vSkip := pss_imp pss_nil fun D σ H ⟨G, env, fp, pv, rs, w⟩ => w G σ H fp (Stp.refl rs.sub) rs
theorem vss_cons {f g : ST} (h1 : VS X W st f) (h2 : VSs X W sts g) : VSs X W (st :: sts) (vSeq f g) := pss_imp (pss_cons h1 h2) fun D σ H ⟨G, env, fp, pv, rs, w⟩ => by
  refine ⟨G, env, fp, pv, rs, ?_⟩
  unfold vSeq at w
  cases z : f env with
  | nx e =>
    rw [z] at w
    exact fun G' σ' H' fp' s r => ⟨G', e, fp', pv, r, w.step s⟩
  | rt v e => rw [z] at w; exact w
  | err c e => rw [z] at w; exact w
  | bad => rw [z] at w; exact w
theorem vss_one {f : ST} (h : VS X W st f) : VSs X W [st] f := pss_one h
/-- a step of the proof alone -/
def vFreeze (i : Nat) : ST := fun e => match e[i]? with
  | some (.va s) => match s.frz? with
    | some x => .nx (e.set i (.va (.f x)))
    | none => .bad
  | _ => .bad
theorem vss_freeze {i : Nat} {g : ST} (h : VSs X W sts g) : VSs X W sts (vSeq (vFreeze i) g) := pss_imp h fun D σ H ⟨G, env, fp, pv, rs, w⟩ => by
  unfold vSeq vFreeze at w
  cases z : env[i]? with
  | none => rw [z] at w; exact w.elim
  | some sl =>
    rw [z] at w
    cases sl with
    | no => exact w.elim
    | rf s => exact w.elim
    | vw p => exact w.elim
    | va s =>
      dsimp only at w
      cases z2 : s.frz? with
      | none => rw [z2] at w; exact w.elim
      | some x =>
        rw [z2] at w
        obtain ⟨v, e1, ow⟩ := rs.rel i _ z
        have hi := (List.getElem?_eq_some_iff.mp z).1
        have ex : Stp G H fp (gu G H (fp i)) H (fun j => if j = i then [] else fp j) := {
          g := gu_same rs.sub
          fr := fun b o h _ => h
          n := fun a o q => by
            by_cases m : a ∈ fp i
            · exact .inr (.inr ⟨i, m⟩)
            · rw [gu_out m] at q; exact .inl q
          f := sub_ite fun a m => by cases m
          trk := fun b h => h
          fld := fun a C dx vs h => ⟨vs, h, fun _ _ _ q => q⟩ }
        refine ⟨gu G H (fp i), env.set i (.va (.f x)), fun j => if j = i then [] else fp j, pv, ?_, w.step ex⟩
        refine ⟨by rw [List.length_set]; exact rs.len, fun j u q => ?_, fun j hj => ?_, gu_sub rs.sub, fun j a m => ?_, fun j => ?_, fun j k a m1 m2 => ?_⟩
        · by_cases hj : j = i
          · subst hj
            rw [List.getElem?_set_self hi] at q
            cases q
            exact ⟨v, e1, by rw [if_pos rfl]; exact .f (ow.frozenF (gu_same rs.sub) (fun a m o q => by rw [gu_in m]; exact q) z2)⟩
          · rw [List.getElem?_set_ne (Ne.symm hj)] at q
            rw [if_neg hj]
            exact (rs.rel j u q).mono (gu_same rs.sub) (Same.refl _)
        · rw [List.length_set] at hj
          show (if j = i then [] else fp j) = []
          rw [if_neg (by omega)]
          exact rs.nil j hj
        · by_cases hj : j = i
          · rw [if_pos hj] at m; cases m
          · rw [if_neg hj] at m
            rw [gu_out fun m2 => hj (rs.dj j i a m m2)]
            exact rs.out j a m
        · show (if j = i then [] else fp j).Nodup
          by_cases hj : j = i
          · rw [if_pos hj]; exact .nil
          · rw [if_neg hj]; exact rs.nd j
        · by_cases q1 : j = i
          · rw [if_pos q1] at m1; cases m1
          · rw [if_neg q1] at m1
            by_cases q2 : k = i
            · rw [if_pos q2] at m2; cases m2
            · rw [if_neg q2] at m2; exact rs.dj j k a m1 m2
/-- x = e -/
def vSet (i : Nat) (f : FP) : ST := fun e => ofR (f e) e fun x => setS e i (.va (.f x))
def vSetO (i : Nat) (f : FO) : ST := fun e => ofR (f e) e fun x => setS e i (.va x)
theorem imp_set {i : Nat} {f : FP} {D : Ends} {σ : L2.St} {H : Hp} (h : tS X.K X.mg W (vSet i f) D σ H) : tAsg (tP X.K X.mg W f) (gName i) D σ H := by
  obtain ⟨G, env, fp, pv, rs, w⟩ := h
  exact ⟨G, env, fp, pv, rs, Post.ofR rs w fun x w v G1 H1 e1 q1 => post_set (rs.ext e1) (.f q1) .nil (fun a m => by cases m) (Stp.of_ext e1) (fun a m => by cases m) w⟩
theorem imp_setO {i : Nat} {f : FO} {D : Ends} {σ : L2.St} {H : Hp} (h : tS X.K X.mg W (vSetO i f) D σ H) : tAsg (tO X.K X.mg W f) (gName i) D σ H := by
  obtain ⟨G, env, fp, pv, rs, w⟩ := h
  exact ⟨G, env, fp, pv, rs, Post.ofR rs w fun x w v G1 H1 r e1 q1 nd fr => post_set (rs.ext e1) q1 nd (fun a m => ⟨(fr a m).2, rs.notin (fr a m).1⟩) (Stp.of_ext e1) (fun a m => .inl (fr a m).1) w⟩
theorem vs_set {i : Nat} {x : Str} {f : FP} {pos' : Pos} (hN : X.N.Nodup) (hi : X.N[i]? = some x) (hx : Loc X.env.scope x) (he : VP X W e f) (hs : swapsWith e (some (.Name x pos')) pos.line X.env = pure false) (hf : X.fn x = true ∨ X.env.scope.names.lookup x = some .local) :
    VS X W (.Assign [.Name x pos'] e pos) (vSet i f) := ps_imp (ps_set hN hi hx he hs hf) fun D σ H h => imp_set h
theorem vs_setO {i : Nat} {x : Str} {f : FO} {pos' : Pos} (hN : X.N.Nodup) (hi : X.N[i]? = some x) (hx : Loc X.env.scope x) (he : VO X W e f) (hs : swapsWith e (some (.Name x pos')) pos.line X.env = pure false) (hf : X.fn x = true ∨ X.env.scope.names.lookup x = some .local) :
    VS X W (.Assign [.Name x pos'] e pos) (vSetO i f) := ps_imp (ps_set hN hi hx he hs hf) fun D σ H h => imp_setO h
/-- if -/
def vIfS (t : FT) (f g : ST) : ST := fun e => ofR (t e) e fun b => if b = true then f e else g e
theorem vs_if {t : FT} {f g : ST} {A B : List Stmt} (hc : VT X W c t) (ha : VSs X W A f) (hb : VSs X W B g) : VS X W (.If c A B pos) (vIfS t f g) :=
  ps_imp (ps_if hc ha hb) fun D σ H ⟨G, env, fp, pv, rs, w⟩ => ⟨G, env, fp, pv, rs, Post.ofR rs w fun b w G1 H1 e1 => by
    cases b with
    | true => exact ⟨G1, env, fp, pv, rs.ext e1, w.step (Stp.of_ext e1)⟩
    | false => exact ⟨G1, env, fp, pv, rs.ext e1, w.step (Stp.of_ext e1)⟩⟩
/-- return -/
def vRet (f : FO) : ST := fun e => ofR (f e) e fun s => .rt s e
def vRetP (f : FP) : ST := fun e => ofR (f e) e fun x => .rt (.f x) e
theorem vs_ret {f : FO} (he : VO X W e f) : VS X W (.Return (some e) pos) (vRet f) := ps_imp (ps_ret he) fun D σ H ⟨G, env, fp, pv, rs, w⟩ => ⟨G, env, fp, pv, rs, Post.ofR rs w fun s w v G1 H1 r e1 q1 nd fr =>
  w v G1 σ H1 fp r (Stp.of_ext e1) (rs.ext e1) q1 nd fun a m => ⟨(fr a m).2, rs.notin (fr a m).1, .inl (fr a m).1⟩⟩
theorem vs_retP {f : FP} (he : VP X W e f) : VS X W (.Return (some e) pos) (vRetP f) := ps_imp (ps_ret he) fun D σ H ⟨G, env, fp, pv, rs, w⟩ => ⟨G, env, fp, pv, rs, Post.ofR rs w fun s w v G1 H1 e1 q1 =>
  w v G1 σ H1 fp [] (Stp.of_ext e1) (rs.ext e1) (.f q1) .nil fun a m => by cases m⟩
/-- return of a name that holds a tree -/
def vRetV (i : Nat) : ST := fun e => match e[i]? with
  | some (.va s) => .rt s (e.set i .no)
  | _ => .bad
theorem vs_retV {i : Nat} (he : PE X e (tVar i)) : VS X W (.Return (some e) pos) (vRetV i) := ps_imp (ps_ret he) fun D σ H ⟨G, env, fp, pv, rs, w⟩ => by
  unfold vRetV at w
  split at w
  · rename_i s z
    obtain ⟨v, e1, ow⟩ := rs.rel i _ z
    refine ⟨v, e1, w v G σ H _ (fp i) (Stp.sub (Stp.refl (fp := fp) rs.sub) (sub_ite (r := []) fun a m => by cases m)) (rs.drop i) ow (rs.nd i) fun a m => ⟨rs.out i a m, fun j m2 => ?_, .inr ⟨i, m⟩⟩⟩
    by_cases hj : j = i
    · rw [if_pos hj] at m2; cases m2
    · rw [if_neg hj] at m2; exact hj (rs.dj j i a m2 m)
  · exact w.elim
def vRetN : ST := fun e => .rt (.f (.d .none)) e
theorem vs_retN : VS X W (.Return none pos) vRetN := ps_imp ps_retN fun D σ H ⟨G, env, fp, pv, rs, w⟩ => w .non G σ H fp [] (Stp.refl rs.sub) rs (.f (.d .non)) .nil fun a m => by cases m
/-- raise -/
def vRaise (c : Str) : ST := fun e => .err c e
theorem vs_raise {x m : Str} {j : Nat} {p p2 p3 : Pos} {C : Addr} {bmB : List Value} {B newId initId : String} (hc : X.calm = true) (tk : Takes X W) (F : ExcBaseFacts B newId initId bmB) (q : PySem.W.excIn X.K C bmB newId = true) (gC : X.mg x = some (.ref C)) (kC : PySem.W.keepIn X.K (.ref C) = true) (r : Raises X (.ref C)) (hg : Gl X x) (hdb : (x == ("__debug__" : Str)) = false) :
    VS X W (.Raise (some (.Call (.Name x p) [.Constant (.str m) j p2] [] pos)) none p3) (vRaise x) := ps_imp (ps_raise hc tk (pmk_own F q gC kC r hg hdb)) fun D σ H ⟨G, env, fp, pv, rs, w⟩ => w C G σ H fp gC (Stp.refl rs.sub) rs
/-- an expression whose value is dropped -/
def vDrop (f : FO) : ST := fun e => ofR (f e) e fun _ => .nx e
theorem vs_drop {f : FO} (he : VO X W e f) (hs : swapsWith e none pos.line X.env = pure false := by rfl) : VS X W (.Expr e pos) (vDrop f) := ps_imp (ps_expr he hs) fun D σ H ⟨G, env, fp, pv, rs, w⟩ => ⟨G, env, fp, pv, rs, Post.ofR rs w fun s w v G1 H1 r e1 q1 nd fr =>
  w G1 σ H1 fp (Stp.of_ext e1) (rs.ext e1)⟩
theorem vs_pass : VS X W (.Pass pos) vSkip := ps_imp ps_pass fun D σ H ⟨G, env, fp, pv, rs, w⟩ => w G σ H fp (Stp.refl rs.sub) rs

/-! ### targets -/
abbrev Tgt := PyData → Env → Option Env
def gN (i : Nat) : Tgt := fun x e => if canSet e i = true then some (e.set i (.va (.f (.d x)))) else none
/-- the slots but those at ts are as they were -/
def Outs (ts : List Nat) (σ σ' : L2.St) : Prop := σ'.length = σ.length ∧ ∀ j, j ∉ ts → σ'[j]? = σ[j]?
def tG (K : PySem.W.Frag) (mg : Str → Option Value) (ts : List Nat) (g : Tgt) : TG := fun v σ H Q => ∃ G env fp pv x, RS K mg G σ env H fp pv ∧ Dq K G v x ∧ match g x env with
  | some e => ∀ σ' fp', (∀ i a, a ∈ fp' i → ∃ j, a ∈ fp j) → Outs ts σ σ' → RS K mg G σ' e H fp' pv → Q σ' H
  | none => False
abbrev VG (X : Cx) (ts : List Nat) (e : Expr) (g : Tgt) : Prop := PG X e (tG X.K X.mg ts g)
theorem vg_imp {i : Nat} {v : V} {σ : L2.St} {H : Hp} {Q : L2.St → Hp → Prop} (h : tG X.K X.mg [i] (gN i) v σ H Q) : gName i v σ H Q := by
  obtain ⟨G, env, fp, pv, x, rs, d, w⟩ := h
  unfold gN at w
  by_cases c : canSet env i = true
  · rw [if_pos c] at w
    refine w _ _ (fun j a m => ?_) ⟨List.length_set, fun j hj => List.getElem?_set_ne (fun q => hj (by rw [q]; exact List.mem_cons_self))⟩ (rs.set (canSet_lt c) (.f (.d d)) .nil (fun a m => by cases m))
    by_cases q : j = i
    · rw [if_pos q] at m; cases m
    · rw [if_neg q] at m; exact ⟨j, m⟩
  · rw [if_neg c] at w; exact w.elim
theorem vg_name {i : Nat} {x : Str} (hN : X.N.Nodup) (hi : X.N[i]? = some x) (hx : Loc X.env.scope x) (hf : X.fn x = true ∨ X.env.scope.names.lookup x = some .local) : VG X [i] (.Name x pos) (gN i) :=
  pg_imp (pg_name hN hi hx hf) fun v σ H Q h => vg_imp h
abbrev Tgts := List PyData → Env → Option Env
def gsN : Tgts := fun xs e => match xs with | [] => some e | _ => none
def gsC (g : Tgt) (r : Tgts) : Tgts := fun xs e => match xs with | x :: xs => (g x e).bind (r xs) | [] => none
def tGs (K : PySem.W.Frag) (mg : Str → Option Value) (ts : List Nat) (g : Tgts) : TGs := fun vs σ H Q => ∃ G env fp pv xs, RS K mg G σ env H fp pv ∧ Dqs K G vs xs ∧ match g xs env with
  | some e => ∀ σ' fp', (∀ i a, a ∈ fp' i → ∃ j, a ∈ fp j) → Outs ts σ σ' → RS K mg G σ' e H fp' pv → Q σ' H
  | none => False
theorem pgs_imp {t t' : TGs} (h : PGs X es t) (q : ∀ v σ H Q, t' v σ H Q → t v σ H Q) : PGs X es t' := ⟨fun pins s σ H v u Q I r w => h.run pins s σ H v u Q I r (q v σ H Q w)⟩
abbrev VGs (X : Cx) (ts : List Nat) (es : List Expr) (g : Tgts) : Prop := PGs X es (tGs X.K X.mg ts g)
theorem vgs_nil : VGs X [] [] gsN := pgs_imp pgs_nil fun vs σ H Q ⟨G, env, fp, pv, xs, rs, d, w⟩ => by
  cases d with
  | nil => exact ⟨rfl, w σ fp (fun i a m => ⟨i, m⟩) ⟨rfl, fun _ _ => rfl⟩ rs⟩
  | cons _ _ => exact w.elim
theorem vgs_cons {g : Tgt} {r : Tgts} {ts tr : List Nat} (h1 : VG X ts e g) (h2 : VGs X tr es r) (hs : (assignEach (e :: es) X.env).map (·.2) = assign e X.env :: (assignEach es X.env).map (·.2)) : VGs X (ts ++ tr) (e :: es) (gsC g r) :=
  pgs_imp (pgs_cons h1 h2 hs) fun vs σ H Q ⟨G, env, fp, pv, xs, rs, d, w⟩ => by
    cases d with
    | nil => exact w.elim
    | @cons v vs x xs h t =>
      refine ⟨v, vs, rfl, G, env, fp, pv, x, rs, h, ?_⟩
      have w' : match (g x env).bind (r xs) with | some e => ∀ σ' fp', (∀ i a, a ∈ fp' i → ∃ j, a ∈ fp j) → Outs (ts ++ tr) σ σ' → RS X.K X.mg G σ' e H fp' pv → Q σ' H | none => False := w
      cases z : g x env with
      | none => rw [z] at w'; exact w'.elim
      | some e1 =>
        rw [z] at w'
        intro σ' fp' hs ho rs'
        refine ⟨G, e1, fp', pv, xs, rs', t, ?_⟩
        have w2 : match r xs e1 with | some e => ∀ σ' fp', (∀ i a, a ∈ fp' i → ∃ j, a ∈ fp j) → Outs (ts ++ tr) σ σ' → RS X.K X.mg G σ' e H fp' pv → Q σ' H | none => False := w'
        cases z2 : r xs e1 with
        | none => rw [z2] at w2; exact w2.elim
        | some e2 =>
          rw [z2] at w2
          refine fun σ2 fp2 hs2 ho2 rs2 => w2 σ2 fp2 (fun i a m => ?_) ⟨ho2.1.trans ho.1, fun j hj => ?_⟩ rs2
          · obtain ⟨j, m1⟩ := hs2 i a m
            exact hs j a m1
          · rw [ho2.2 j fun m => hj (List.mem_append_right _ m)]
            exact ho.2 j fun m => hj (List.mem_append_left _ m)
def gT (n : Nat) (g : Tgts) : Tgt := fun x e => match x with
  | .tuple ds => if ds.length = n then g ds e else none
  | _ => none
theorem vg_tup {k n : Nat} {g : Tgts} {ts : List Nat} (hc : X.calm = true) (h : VGs X ts es g) (hn : (assignEach es X.env).length = n) (hst : (assignEach es X.env).findIdx? (·.1) = none) : VG X ts (.Tuple es k pos) (gT n g) :=
  pg_imp (pg_tup hc h hn hst) fun v σ H Q ⟨G, env, fp, pv, x, rs, d, w⟩ => by
    cases d with
    | @tup a vs ds h t =>
      have w' : match (if ds.length = n then g ds env else none) with | some e => ∀ σ' fp', (∀ i a, a ∈ fp' i → ∃ j, a ∈ fp j) → Outs ts σ σ' → RS X.K X.mg G σ' e H fp' pv → Q σ' H | none => False := w
      by_cases hl : ds.length = n
      · rw [if_pos hl] at w'
        exact ⟨_, _, rfl, sqt_mono rs.sub h, by rw [t.length]; exact hl, G, env, fp, pv, ds, rs, t, w'⟩
      · rw [if_neg hl] at w'; exact w'.elim
    | non => exact w.elim
    | bl _ => exact w.elim
    | int _ => exact w.elim
    | str _ => exact w.elim
    | lst _ _ => exact w.elim
/-- a, b, .. = e -/
def vAsg (g : Tgt) (f : FD) : ST := fun e => ofR (f e) e fun x => match g x e with
  | some e' => .nx e'
  | none => .bad
def frz1 : FP → FD := toD
theorem vs_asg {tg : Expr} {f : FP} {g : Tgt} {ts : List Nat} (he : VP X W e f) (hg : VG X ts tg g) (hs : swapsWithSole [tg] e pos.line X.env = pure false) (hw : swappedStores [tg] e X.env = pure none) (h1 : (assignEach [tg] X.env).map (·.2) = [assign tg X.env]) : VS X W (.Assign [tg] e pos) (vAsg g (toD f)) :=
  ps_imp (ps_asg he hg hs hw h1) fun D σ H ⟨G, env, fp, pv, rs, w⟩ => ⟨G, env, fp, pv, rs, by
    unfold vAsg toD at w
    have hw : PostR X.mg W σ H (fun x => Post X.K X.mg W D G H fp pv (match x with | .d p => (match g p env with | some e' => Flow.nx e' | none => Flow.bad) | _ => .bad)) (f env) := by
      cases z : f env with
      | ok x =>
        rw [z] at w
        cases x with
        | d p => exact w
        | ob _ _ => exact w.elim
        | sc _ => exact w.elim
      | err c =>
        rw [z] at w
        exact fun C H' m s => w C G σ H' fp m (Stp.of_ext ⟨Same.refl _, s, rs.sub.trans s, fun _ _ e => .inl e⟩) (rs.same s)
      | bad => rw [z] at w; exact w
    refine PostR.imp hw (Same.refl _) fun x w v G1 H1 e1 q1 => ?_
    cases q1 with
    | @d _ p q1 =>
      dsimp only at w
      refine ⟨G1, env, fp, pv, p, rs.ext e1, q1, ?_⟩
      cases z : g p env with
      | none => rw [z] at w; exact w.elim
      | some e' =>
        rw [z] at w
        exact fun σ' fp' hs _ rs' => w G1 σ' H1 fp' ((Stp.of_ext e1).sub fun i a m => .inr (hs i a m)) rs'
    | ob _ _ _ => exact w.elim
    | sc _ => exact w.elim⟩
end
end VL

set_option Elab.async false
set_option linter.all false
set_option maxRecDepth 100000
set_option maxHeartbeats 4000000
namespace VL
open PySem PySem.Spec PyProof.Rows L2

/-! ### what a loop walks -/
abbrev IT := Env → Res (List PyData)
/-- B: the heap that must stand -/
def ItOk (K : PySem.W.Frag) (G B : Hp) (items : List PyData) (J : It) : Prop := ∀ G1 H1, Same G G1 → Same B H1 → Same G1 H1 →
  (∀ i, items.length ≤ i → J.stop i H1) ∧ ∀ i x, items[i]? = some x → J.go i H1 ∧ ∀ v H2, J.yld i H1 v H2 → ∃ G2, Ext G1 H1 G2 H2 ∧ Dq K G2 v x
/-- over what is frozen; over what is read -/
def tItF (K : PySem.W.Frag) (mg : Str → Option Value) (W : WX) (f : IT) : TI := fun σ H R => ∃ G env fp pv, RS K mg G σ env H fp pv ∧
  PostR mg W σ H (fun items => ∀ J G' H', Ext G H G' H' → ItOk K G' G' items J → R J H') (f env)
def tItR (K : PySem.W.Frag) (mg : Str → Option Value) (W : WX) (f : IT) : TI := fun σ H R => ∃ G env fp pv, RS K mg G σ env H fp pv ∧
  PostR mg W σ H (fun items => ∀ J G' H', Ext G H G' H' → ItOk K G' H' items J → R J H') (f env)
abbrev VIF (X : Cx) (W : WX) (tg e : Expr) (f : IT) : Prop := PI X tg e (tItF X.K X.mg W f)
abbrev VIR (X : Cx) (W : WX) (tg e : Expr) (f : IT) : Prop := PI X tg e (tItR X.K X.mg W f)
section
variable {K : PySem.W.Frag} {G B : Hp} {ds es : List PyData} {vs ws : List V} {a b : Addr}
theorem ItOk.ofF {G H : Hp} {items : List PyData} {J : It} (s : Same G H) (h : ItOk K G G items J) : ItOk K G H items J := fun G1 H1 g b s1 => h G1 H1 g (s.trans b) s1
theorem it_list (h : SqL K B a vs) (t : Dqs K G vs ds) : ItOk K G B ds (Itl K a) := fun G1 H1 g b s => by
  have h1 := b.seq h
  refine ⟨fun i hi => ⟨vs, h1, by rw [t.length]; exact hi⟩, fun i x e => ?_⟩
  obtain ⟨v, hv, d⟩ := t.get e
  exact ⟨⟨vs, v, h1, hv⟩, fun u H2 ⟨e2, k⟩ => by
    have q := k vs h1
    rw [hv] at q
    cases q
    subst e2
    exact ⟨G1, Ext.refl s, d.mono g⟩⟩
theorem it_rev (h : SqL K B a vs) (t : Dqs K G vs ds) : ItOk K G B ds.reverse (Itv K a vs.length) := fun G1 H1 g b s => by
  have h1 := b.seq h
  refine ⟨fun i hi => by rw [List.length_reverse] at hi; show vs.length ≤ i; rw [t.length]; exact hi, fun i x e => ?_⟩
  have hi : i < ds.length := by
    have := (List.getElem?_eq_some_iff.mp e).1
    rwa [List.length_reverse] at this
  rw [List.getElem?_reverse hi] at e
  obtain ⟨v, hv, d⟩ := t.get e
  rw [← t.length] at hv hi
  exact ⟨⟨hi, vs, v, h1, hv⟩, fun u H2 ⟨e2, k⟩ => by
    have q := k vs h1
    rw [hv] at q
    cases q
    subst e2
    exact ⟨G1, Ext.refl s, d.mono g⟩⟩
def rngP (lo : Int) (n : Nat) : List PyData := (List.range n).map fun i => .int (lo + (i : Nat))
theorem it_rng {lo : Int} {n : Nat} : ItOk K G B (rngP lo n) (Itr lo n) := fun G1 H1 g b s => by
  have hl : (rngP lo n).length = n := by unfold rngP; rw [List.length_map, List.length_range]
  refine ⟨fun i hi => by rw [hl] at hi; exact hi, fun i x e => ?_⟩
  have hi : i < n := by rw [← hl]; exact (List.getElem?_eq_some_iff.mp e).1
  unfold rngP at e
  rw [List.getElem?_map, List.getElem?_range hi] at e
  cases e
  exact ⟨hi, fun u H2 ⟨e2, k⟩ => by
    subst e2 k
    exact ⟨G1, Ext.refl s, .int _⟩⟩
def enumP (k : Nat) : List PyData → List PyData
  | [] => []
  | x :: r => .tuple [.int (k : Nat), x] :: enumP (k + 1) r
theorem enumP_length : ∀ (k : Nat) (ds : List PyData), (enumP k ds).length = ds.length
  | _, [] => rfl
  | k, x :: r => by show (enumP (k + 1) r).length + 1 = r.length + 1; rw [enumP_length (k + 1) r]
theorem enumP_get : ∀ (k i : Nat) (ds : List PyData), (enumP k ds)[i]? = ds[i]?.map fun x => .tuple [.int ((k + i : Nat)), x]
  | _, _, [] => by simp [enumP]
  | k, 0, x :: r => rfl
  | k, i + 1, x :: r => by
    show (enumP (k + 1) r)[i]? = r[i]?.map _
    rw [enumP_get (k + 1) i r, show k + 1 + i = k + (i + 1) by omega]
theorem it_enum (h : SqL K B a vs) (t : Dqs K G vs ds) : ItOk K G B (enumP 0 ds) (Ite K a) := fun G1 H1 g b s => by
  have h1 := b.seq h
  refine ⟨fun i hi => ⟨vs, h1, by rw [t.length]; rw [enumP_length] at hi; exact hi⟩, fun i x e => ?_⟩
  rw [enumP_get] at e
  cases z : ds[i]? with
  | none => rw [z] at e; cases e
  | some d0 =>
    rw [z] at e
    cases e
    obtain ⟨v, hv, d⟩ := t.get z
    refine ⟨⟨vs, v, h1, hv⟩, fun u H2 ⟨T, y, e1, hT, e2, k⟩ => ?_⟩
    have q := k vs h1
    rw [hv] at q
    cases q
    subst e1 e2
    have ex := Ext.new (o := .tup [V.int (i : Nat), v]) s hT
    exact ⟨_, ex, .tup (SqT.of upd_same) (.cons (by rw [Nat.zero_add]; exact .int _) (.cons ((d.mono g).mono ex.g) .nil))⟩
def zipP : List PyData → List PyData → List PyData
  | x :: r, y :: s => .tuple [x, y] :: zipP r s
  | _, _ => []
theorem zipP_length : ∀ ds es : List PyData, (zipP ds es).length = min ds.length es.length
  | [], es => by simp [zipP]
  | x :: r, [] => by simp [zipP]
  | x :: r, y :: s => by
    show (zipP r s).length + 1 = min (r.length + 1) (s.length + 1)
    rw [zipP_length r s]
    omega
theorem zipP_get : ∀ (i : Nat) (ds es : List PyData) (x : PyData), (zipP ds es)[i]? = some x → ∃ a b, ds[i]? = some a ∧ es[i]? = some b ∧ x = .tuple [a, b]
  | i, [], es, x, h => by simp [zipP] at h
  | i, _ :: _, [], x, h => by simp [zipP] at h
  | 0, a :: r, b :: s, x, h => ⟨a, b, rfl, rfl, (Option.some.inj h).symm⟩
  | i + 1, a :: r, b :: s, x, h => zipP_get i r s x h
theorem it_zip (h : SqL K B a vs) (t : Dqs K G vs ds) (h' : SqL K B b ws) (t' : Dqs K G ws es) : ItOk K G B (zipP ds es) (Itz K a b) := fun G1 H1 g b s => by
  have h1 := b.seq h
  have h2 := b.seq h'
  refine ⟨fun i hi => ⟨vs, ws, h1, h2, by rw [t.length, t'.length]; rw [zipP_length] at hi; omega⟩, fun i x e => ?_⟩
  obtain ⟨p, q, e1, e2, rfl⟩ := zipP_get i ds es x e
  obtain ⟨v, hv, d⟩ := t.get e1
  obtain ⟨w, hw, d'⟩ := t'.get e2
  refine ⟨⟨vs, ws, v, w, h1, h2, hv, hw⟩, fun u H2 ⟨T, y, z, f1, hT, f2, k1, k2⟩ => ?_⟩
  have q1 := k1 vs h1
  have q2 := k2 ws h2
  rw [hv] at q1
  rw [hw] at q2
  cases q1
  cases q2
  subst f1 f2
  have ex := Ext.new (o := .tup [v, w]) s hT
  exact ⟨_, ex, .tup (SqT.of upd_same) (.cons ((d.mono g).mono ex.g) (.cons ((d'.mono g).mono ex.g) .nil))⟩
end

section
variable {X : Cx} {W : WX} {a b c e tg : Expr} {es : List Expr} {pos : Pos} {st : Stmt} {sts : List Stmt}
def asL : PyData → Res (List PyData)
  | .list ds => .ok ds
  | _ => .bad
def vItL (f : FD) : IT := v1 asL f
def vItRev (f : FD) : IT := v1 (fun x => (asL x).bind fun ds => .ok ds.reverse) f
def vItEnum (f : FD) : IT := v1 (fun x => (asL x).bind fun ds => .ok (enumP 0 ds)) f
def vItZip (f g : FD) : IT := v2 (fun x y => (asL x).bind fun ds => (asL y).bind fun es => .ok (zipP ds es)) f g
noncomputable def rng1 : PyData → Res (List PyData)
  | .int j => cIf (-4611686018427387904 ≤ j ∧ j < 4611686018427387904) (.ok (rngP 0 j.toNat)) .bad
  | _ => .bad
noncomputable def rng2 : PyData → PyData → Res (List PyData)
  | .int i, .int j => cIf (-4611686018427387904 ≤ i ∧ i < 4611686018427387904 ∧ -4611686018427387904 ≤ j ∧ j < 4611686018427387904) (.ok (rngP i (j - i).toNat)) .bad
  | _, _ => .bad
theorem vif_vir {f : IT} (h : VIF X W tg e f) : VIR X W tg e f := pi_imp h fun σ H R ⟨G, env, fp, pv, rs, w⟩ => ⟨G, env, fp, pv, rs, PostR.imp w (Same.refl _) fun items w J G' H' ex it => w J G' H' ex (it.ofF ex.s)⟩
theorem asL_ok {α : Type} {mg : Str → Option Value} {σ : L2.St} {H : Hp} {j : α → Prop} {x : PyData} {k : List PyData → Res α} (w : PostR mg W σ H j ((asL x).bind k)) : ∃ ds, x = .list ds ∧ PostR mg W σ H j (k ds) := by
  cases x with
  | list ds => exact ⟨ds, rfl, w⟩
  | none => exact w.elim
  | bool _ => exact w.elim
  | int _ => exact w.elim
  | str _ => exact w.elim
  | tuple _ => exact w.elim
  | dict _ => exact w.elim
theorem asL_ok1 {mg : Str → Option Value} {σ : L2.St} {H : Hp} {j : List PyData → Prop} {x : PyData} (w : PostR mg W σ H j (asL x)) : ∃ ds, x = .list ds ∧ j ds := by
  cases x with
  | list ds => exact ⟨ds, rfl, w⟩
  | none => exact w.elim
  | bool _ => exact w.elim
  | int _ => exact w.elim
  | str _ => exact w.elim
  | tuple _ => exact w.elim
  | dict _ => exact w.elim
theorem Dq.lst' {K : PySem.W.Frag} {G : Hp} {v : V} {ds : List PyData} (h : Dq K G v (.list ds)) : ∃ a vs, v = .ref a ∧ G a = some (.lst vs) ∧ Dqs K G vs ds := by
  cases h with | lst h t => exact ⟨_, _, rfl, h, t⟩
theorem vir_list {f : FD} (h : VD X W e f) : VIR X W tg e (vItL f) := pi_imp (pi_list h) fun σ H R ⟨G, env, fp, pv, rs, w⟩ => ⟨G, env, fp, pv, rs, PostR.seq w fun x w v G1 H1 e1 q1 => by
  obtain ⟨ds, rfl, w⟩ := asL_ok1 w
  obtain ⟨p, vs, rfl, h1, t1⟩ := q1.lst e1.s
  exact ⟨p, rfl, ⟨vs, SqL.of h1⟩, w _ G1 H1 e1 (it_list (SqL.of h1) t1)⟩⟩
theorem toD_ok {α : Type} {K : PySem.W.Frag} {mg : Str → Option Value} {σ : L2.St} {G H : Hp} {v : V} {x : FV} {j : α → Prop} {k : PyData → Res α} (q : Fq K mg G v x) (w : PostR mg W σ H j ((match x with | .d p => Res.ok p | _ => .bad).bind k)) : ∃ p, Dq K G v p ∧ PostR mg W σ H j (k p) := by
  cases q with
  | d q => exact ⟨_, q, w⟩
  | ob _ _ _ => exact w.elim
  | sc _ => exact w.elim
theorem toD_seq {α : Type} {mg : Str → Option Value} {σ : L2.St} {H : Hp} {j : α → Prop} {f : FP} {k : PyData → Res α} {env : Env} (w : PostR mg W σ H j ((toD f env).bind k)) : PostR mg W σ H j ((f env).bind fun x => (match x with | .d p => Res.ok p | _ => .bad).bind k) := by
  unfold toD at w
  cases z : f env with
  | ok x => rw [z] at w; exact w
  | err c => rw [z] at w; exact w
  | bad => rw [z] at w; exact w
theorem vif_list {f : FP} (h : VP X W e f) : VIF X W tg e (vItL (toD f)) := pi_imp (pi_list h) fun σ H R ⟨G, env, fp, pv, rs, w⟩ => ⟨G, env, fp, pv, rs, PostR.seq (toD_seq w) fun x w v G1 H1 e1 q1 => by
  obtain ⟨p, q1, w⟩ := toD_ok q1 w
  obtain ⟨ds, rfl, w⟩ := asL_ok1 w
  obtain ⟨p, vs, rfl, h1, t1⟩ := q1.lst'
  exact ⟨p, rfl, ⟨vs, SqL.of (e1.s _ _ h1)⟩, w _ G1 H1 e1 (it_list (SqL.of h1) t1)⟩⟩
theorem vif_rev {f : FP} {p : Pos} (hm : X.mg "reversed" = none) (h : VP X W e f) (hg : Gl X "reversed" := by rfl) (hs : starEach [e] X.env = [(false, eval e X.env)] := by rfl) : VIF X W tg (.Call (.Name "reversed" p) [e] [] pos) (vItRev (toD f)) :=
  pi_imp (pi_reversed hg hm (pa_cons h pa_nil hs) hs) fun σ H R ⟨G, env, fp, pv, rs, w⟩ => ⟨G, env, fp, pv, rs, PostR.seq (toD_seq w) fun x w v G1 H1 e1 q1 => by
    obtain ⟨p, q1, w⟩ := toD_ok q1 w
    obtain ⟨ds, rfl, w⟩ := asL_ok w
    obtain ⟨p, vs, rfl, h1, t1⟩ := q1.lst'
    exact ⟨p, vs, rfl, SqL.of (e1.s _ _ h1), w _ G1 H1 e1 (it_rev (SqL.of h1) t1)⟩⟩
theorem vif_enum {f : FP} {elts : List Expr} {kk : Nat} {tpos p : Pos} (hm : X.mg "enumerate" = none) (h : VP X W e f) (hg : Gl X "enumerate" := by rfl) (hs : starEach [e] X.env = [(false, eval e X.env)] := by rfl) : VIF X W (.Tuple elts kk tpos) (.Call (.Name "enumerate" p) [e] [] pos) (vItEnum (toD f)) :=
  pi_imp (pi_enum hg hm (pa_cons h pa_nil hs) hs) fun σ H R ⟨G, env, fp, pv, rs, w⟩ => ⟨G, env, fp, pv, rs, PostR.seq (toD_seq w) fun x w v G1 H1 e1 q1 => by
    obtain ⟨p, q1, w⟩ := toD_ok q1 w
    obtain ⟨ds, rfl, w⟩ := asL_ok w
    obtain ⟨p, vs, rfl, h1, t1⟩ := q1.lst'
    exact ⟨p, vs, rfl, SqL.of (e1.s _ _ h1), w _ G1 H1 e1 (it_enum (SqL.of h1) t1)⟩⟩
theorem vir_enum {f : FD} {elts : List Expr} {kk : Nat} {tpos p : Pos} (hm : X.mg "enumerate" = none) (h : VD X W e f) (hg : Gl X "enumerate" := by rfl) (hs : starEach [e] X.env = [(false, eval e X.env)] := by rfl) : VIR X W (.Tuple elts kk tpos) (.Call (.Name "enumerate" p) [e] [] pos) (vItEnum f) :=
  pi_imp (pi_enum hg hm (pa_cons h pa_nil hs) hs) fun σ H R ⟨G, env, fp, pv, rs, w⟩ => ⟨G, env, fp, pv, rs, PostR.seq w fun x w v G1 H1 e1 q1 => by
    obtain ⟨ds, rfl, w⟩ := asL_ok w
    obtain ⟨p, vs, rfl, h1, t1⟩ := q1.lst e1.s
    exact ⟨p, vs, rfl, SqL.of h1, w _ G1 H1 e1 (it_enum (SqL.of h1) t1)⟩⟩
theorem vif_zip {f g : FP} {elts : List Expr} {kk : Nat} {tpos p : Pos} (hm : X.mg "zip" = none) (ha : VP X W a f) (hb : VP X W b g) (hg : Gl X "zip" := by rfl) (hs : starEach [a, b] X.env = (false, eval a X.env) :: starEach [b] X.env := by rfl) (hs2 : starEach [b] X.env = (false, eval b X.env) :: starEach [] X.env := by rfl)
    (hpl : (backTo pos (starEach [b] X.env)).any (·.1) = false := by rfl) : VIF X W (.Tuple elts kk tpos) (.Call (.Name "zip" p) [a, b] [] pos) (vItZip (toD f) (toD g)) :=
  pi_imp (pi_zip hg hm (pa_cons ha (pa_cons hb pa_nil hs2) hs) hs hpl) fun σ H R ⟨G, env, fp, pv, rs, w⟩ => ⟨G, env, fp, pv, rs, PostR.seq (toD_seq w) fun x w v G1 H1 e1 q1 => by
    obtain ⟨y, q1, w⟩ := toD_ok q1 w
    refine ⟨G1, env, fp, pv, rs.ext e1, PostR.imp (PostR.seq (k := fun z => PostR X.mg W σ H _ _) (toD_seq w) fun z w => w) e1.h fun z w u G2 H2 e2 q2 => ?_⟩
    obtain ⟨z, q2, w⟩ := toD_ok q2 w
    obtain ⟨ds, ed, w1⟩ := asL_ok w
    obtain ⟨es, ee, w⟩ := asL_ok w1
    subst ed ee
    obtain ⟨p, vs, rfl, h1, t1⟩ := (q1.mono e2.g).lst'
    obtain ⟨p', ws, rfl, h2, t2⟩ := q2.lst'
    exact ⟨p, p', vs, ws, rfl, SqL.of (e2.s _ _ h1), SqL.of (e2.s _ _ h2), w _ G2 H2 (e1.trans e2) (it_zip (SqL.of h1) t1 (SqL.of h2) t2)⟩⟩
theorem vir_zip {f g : FD} {elts : List Expr} {kk : Nat} {tpos p : Pos} (hm : X.mg "zip" = none) (ha : VD X W a f) (hb : VD X W b g) (hg : Gl X "zip" := by rfl) (hs : starEach [a, b] X.env = (false, eval a X.env) :: starEach [b] X.env := by rfl) (hs2 : starEach [b] X.env = (false, eval b X.env) :: starEach [] X.env := by rfl)
    (hpl : (backTo pos (starEach [b] X.env)).any (·.1) = false := by rfl) : VIR X W (.Tuple elts kk tpos) (.Call (.Name "zip" p) [a, b] [] pos) (vItZip f g) :=
  pi_imp (pi_zip hg hm (pa_cons ha (pa_cons hb pa_nil hs2) hs) hs hpl) fun σ H R ⟨G, env, fp, pv, rs, w⟩ => ⟨G, env, fp, pv, rs, PostR.seq w fun y w v G1 H1 e1 q1 => by
    refine ⟨G1, env, fp, pv, rs.ext e1, PostR.imp (PostR.seq (k := fun z => PostR X.mg W σ H _ _) w fun z w => w) e1.h fun z w u G2 H2 e2 q2 => ?_⟩
    obtain ⟨ds, ed, w1⟩ := asL_ok w
    obtain ⟨es, ee, w⟩ := asL_ok w1
    subst ed ee
    obtain ⟨p, vs, rfl, h1, t1⟩ := (q1.mono e2.g e2.h).lst e2.s
    obtain ⟨p', ws, rfl, h2, t2⟩ := q2.lst e2.s
    exact ⟨p, p', vs, ws, rfl, SqL.of h1, SqL.of h2, w _ G2 H2 (e1.trans e2) (it_zip (SqL.of h1) t1 (SqL.of h2) t2)⟩⟩
theorem vif_rng1 {f : FD} {p : Pos} (hm : X.mg "range" = none) (ha : VD X W a f) (hg : Gl X "range" := by rfl) (hs : starEach [a] X.env = [(false, eval a X.env)] := by rfl) : VIF X W tg (.Call (.Name "range" p) [a] [] pos) (v1 rng1 f) :=
  pi_imp (pi_range1 hg hm (pa_cons ha pa_nil hs) hs) fun σ H R ⟨G, env, fp, pv, rs, w⟩ => ⟨G, env, fp, pv, rs, PostR.seq w fun x w v G1 H1 e1 q1 => by
    unfold rng1 cIf at w
    split at w
    · split at w
      · rename_i hj
        exact ⟨_, by rw [q1.int], by have := hj.1; omega, by have := hj.2; omega, w _ G1 H1 e1 it_rng⟩
      · exact w.elim
    · exact w.elim⟩
theorem vif_rng2 {f g : FD} {p : Pos} (hm : X.mg "range" = none) (ha : VD X W a f) (hb : VD X W b g) (hg : Gl X "range" := by rfl) (hs : starEach [a, b] X.env = [(false, eval a X.env), (false, eval b X.env)] := by rfl) (hs2 : starEach [b] X.env = [(false, eval b X.env)] := by rfl) : VIF X W tg (.Call (.Name "range" p) [a, b] [] pos) (v2 rng2 f g) :=
  pi_imp (pi_range2 hg hm (pa_cons ha (pa_cons hb pa_nil hs2) (by rw [hs, hs2])) hs hs2) fun σ H R ⟨G, env, fp, pv, rs, w⟩ => ⟨G, env, fp, pv, rs, PostR.seq w fun x w v G1 H1 e1 q1 => by
    refine ⟨G1, env, fp, pv, rs.ext e1, PostR.imp (PostR.seq (k := fun z => PostR X.mg W σ H _ _) w fun z w => w) e1.h fun z w u G2 H2 e2 q2 => ?_⟩
    unfold rng2 cIf at w
    split at w
    · split at w
      · rename_i hj
        exact ⟨_, _, by rw [q1.int, q2.int], ⟨by have := hj.1; omega, by have := hj.2.1; omega, by have := hj.2.2.1; omega, by have := hj.2.2.2; omega⟩, w _ G2 H2 (e1.trans e2) it_rng⟩
      · exact w.elim
    · exact w.elim⟩

/-! ### for -/
def forL (g : Tgt) (body : ST) : List PyData → ST
  | [] => fun e => .nx e
  | x :: xs => fun e => match g x e with
    | some e1 => match body e1 with
      | .nx e2 => forL g body xs e2
      | r => r
    | none => .bad
def vFor (it : IT) (g : Tgt) (body : ST) : ST := fun e => ofR (it e) e fun items => forL g body items e
theorem vs_for {it : IT} {g : Tgt} {ts : List Nat} {body : ST} {B : List Stmt} (hp : PassesOwn (model X.prog X.w) X.A X.env X.xe) (hc : X.calm = true) (hi : VIF X W tg e it) (hg : VG X ts tg g) (hb : VSs X W B body) (hs : ∀ x, foldedSetIterable e X.env x = pure x := by intro _; rfl) :
    VS X W (.For tg e B [] pos) (vFor it g body) := ps_imp (ps_for hp hc hi hg hb hs) fun D σ H ⟨G, env, fp, pv, rs, w⟩ => ⟨G, env, fp, pv, rs, Post.ofR rs w fun items w J G1 H1 e1 io => by
  refine ⟨fun i m σ H => m + i = items.length ∧ ∃ G env fp pv, RS X.K X.mg G σ env H fp pv ∧ Same G1 G ∧ Post X.K X.mg W D G H fp pv (forL g body (items.drop i) env),
    ⟨items.length, by omega, G1, env, fp, pv, rs.ext e1, Same.refl _, w.step (Stp.of_ext e1)⟩, ?_⟩
  rintro i m σ2 H2 ⟨em, G2, env2, fp2, pv2, rs2, s2, w2⟩
  obtain ⟨hstop, hgo⟩ := io G2 H2 s2 (s2.trans rs2.sub) rs2.sub
  by_cases hlt : i < items.length
  · right
    have ei : items[i]? = some items[i] := List.getElem?_eq_getElem hlt
    obtain ⟨go, yl⟩ := hgo i _ ei
    refine ⟨go, fun σ' H' => ∃ G env fp pv, RS X.K X.mg G σ' env H' fp pv ∧ Same G1 G ∧ Post X.K X.mg W D G H' fp pv (forL g body (items.drop (i + 1)) env), fun σ' H' hN => ⟨m - 1, by omega, by omega, hN⟩, fun x H3 hy => ?_⟩
    obtain ⟨G3, e3, d3⟩ := yl x H3 hy
    rw [List.drop_eq_getElem_cons hlt] at w2
    have rs3 := rs2.ext e3
    have w3 := w2.step (Stp.of_ext e3)
    refine ⟨G3, env2, fp2, pv2, items[i], rs3, d3, ?_⟩
    unfold forL at w3
    cases z : g items[i] env2 with
    | none => rw [z] at w3; exact w3.elim
    | some e4 =>
      rw [z] at w3
      intro σ4 fp4 h4 _ rs4
      refine ⟨G3, e4, fp4, pv2, rs4, ?_⟩
      have st4 : Stp G3 H3 fp2 G3 H3 fp4 := Stp.sub (Stp.refl (fp := fp2) rs3.sub) fun i a m => .inr (h4 i a m)
      have w4 := Post.step st4 w3
      dsimp only at w4
      cases z5 : body e4 with
      | nx e5 =>
        rw [z5] at w4
        exact fun G5 σ5 H5 fp5 st5 rs5 => ⟨G5, e5, fp5, pv2, rs5, (s2.trans e3.g).trans st5.g, w4.step st5⟩
      | rt v e5 => rw [z5] at w4; exact w4
      | err c e5 => rw [z5] at w4; exact w4
      | bad => rw [z5] at w4; exact w4
  · left
    have ei : items.drop i = [] := List.drop_eq_nil_iff.mpr (by omega)
    rw [ei] at w2
    exact ⟨hstop i (by omega), w2 G2 σ2 H2 fp2 (Stp.refl rs2.sub) rs2⟩⟩
/-! ### while -/
def whileL (t : FT) (body : ST) : Nat → ST
  | 0 => fun _ => .bad
  | n + 1 => fun e => ofR (t e) e fun b => if b = true then (match body e with | .nx e2 => whileL t body n e2 | r => r) else .nx e
theorem vs_while (n : Nat) {t : FT} {body : ST} {B : List Stmt} (hp : PassesOwn (model X.prog X.w) X.A X.env X.xe) (hc : VT X W c t) (hb : VSs X W B body) : VS X W (.While c B [] pos) (whileL t body n) :=
  ps_imp (ps_while hp hc hb) fun D σ H ⟨G, env, fp, pv, rs, w⟩ => by
    refine ⟨fun m σ H => ∃ G env fp pv, RS X.K X.mg G σ env H fp pv ∧ Post X.K X.mg W D G H fp pv (whileL t body m env), ⟨n, G, env, fp, pv, rs, w⟩, ?_⟩
    rintro m σ2 H2 ⟨G2, env2, fp2, pv2, rs2, w2⟩
    cases m with
    | zero => exact w2.elim
    | succ m =>
      refine ⟨G2, env2, fp2, pv2, rs2, Post.ofR rs2 w2 fun b w G3 H3 e3 => ?_⟩
      cases b with
      | false => exact w G3 σ2 H3 fp2 (Stp.of_ext e3) (rs2.ext e3)
      | true =>
        have w3 := Post.step (Stp.of_ext e3) w
        rw [if_pos rfl] at w3 ⊢
        refine ⟨fun σ' H' => ∃ G env fp pv, RS X.K X.mg G σ' env H' fp pv ∧ Post X.K X.mg W D G H' fp pv (whileL t body m env), fun σ' H' hN => ⟨m, by omega, hN⟩, G3, env2, fp2, pv2, rs2.ext e3, ?_⟩
        cases z5 : body env2 with
        | nx e5 =>
          rw [z5] at w3
          exact fun G5 σ5 H5 fp5 st5 rs5 => ⟨G5, e5, fp5, pv2, rs5, w3.step st5⟩
        | rt v e5 => rw [z5] at w3; exact w3
        | err c e5 => rw [z5] at w3; exact w3
        | bad => rw [z5] at w3; exact w3

/-! ### comprehensions -/
def wipeE (e : Env) : List Nat → Env
  | [] => e
  | v :: vs => (wipeE e vs).set v .no
/-- no exception leaves a comprehension -/
def noE {α : Type} : Res α → Res α
  | .ok a => .ok a
  | _ => .bad
theorem noE_ok {α : Type} {mg : Str → Option Value} {σ σ' : L2.St} {H H' : Hp} {W' : WX} {j k : α → Prop} {r : Res α} (w : PostR mg W σ H j (noE r)) (q : ∀ a, j a → k a) : PostR mg W' σ' H' k r := by
  cases r with
  | ok a => exact q a w
  | err c => exact w.elim
  | bad => exact w.elim
def compL (g : Tgt) (t : FT) (elt : FO) (env : Env) : List PyData → Res (List SV)
  | [] => .ok []
  | x :: xs => match g x env with
    | none => .bad
    | some e1 => (noE (t e1)).bind fun b => if b = true then (noE (elt e1)).bind fun y => (compL g t elt env xs).bind fun ys => .ok (y :: ys) else compL g t elt env xs
noncomputable def vComp (it : IT) (g : Tgt) (t : FT) (elt : FO) (vs : List Nat) : FO := fun env => (it env).bind fun items => cIf (items.length ≤ 16777216) ((compL g t elt (wipeE env vs) items).bind fun ys => .ok (.own ys)) .bad
abbrev VTs (X : Cx) (W : WX) (es : List Expr) (f : FT) : Prop := PTs X es (tT X.K X.mg W f)
def vYes : FT := fun _ => .ok true
theorem pts_imp {t t' : TT} (h : PTs X es t) (q : ∀ σ H Q, t' σ H Q → t σ H Q) : PTs X es t' := ⟨fun pins s σ H Q I w => h.run pins s σ H Q I (q σ H Q w)⟩
theorem vts_nil : VTs X W [] vYes := pts_imp pts_nil fun σ H Q ⟨G, env, fp, pv, rs, w⟩ => w G H (Ext.refl rs.sub)
theorem vts_one {f : FT} (h : VT X W c f) : VTs X W [c] f := pts_one h
theorem RS.wipe {K : PySem.W.Frag} {mg : Str → Option Value} {G H : Hp} {σ : L2.St} {env : Env} {fp : Nat → List Addr} {pv : Nat → V} (h : RS K mg G σ env H fp pv) : ∀ vs : List Nat, ∃ fp', RS K mg G (wipe σ vs) (wipeE env vs) H fp' pv
  | [] => ⟨fp, h⟩
  | v :: vs => by
    obtain ⟨fp', q⟩ := RS.wipe h vs
    have d := q.drop v
    refine ⟨_, ⟨?_, fun j u e => ?_, d.nil, d.sub, d.out, d.nd, d.dj⟩⟩
    · show ((wipeE env vs).set v .no).length = ((L2.wipe σ vs).set v none).length
      rw [List.length_set, List.length_set]; exact q.len
    · have r := d.rel j u e
      show slotOk _ _ _ _ _ ((L2.wipe σ vs).set v none)[j]? _ _
      by_cases hj : j = v
      · subst hj
        have e' : ((wipeE env vs).set j .no)[j]? = some u := e
        by_cases hl : j < (wipeE env vs).length
        · rw [List.getElem?_set_self hl] at e'
          cases e'
          exact r
        · rw [List.getElem?_eq_none (by rw [List.length_set]; omega)] at e'; cases e'
      · rw [List.getElem?_set_ne (Ne.symm hj)]
        exact r
theorem wipe_out {σ σ' : L2.St} {ts : List Nat} (h : Outs ts σ σ') : ∀ vs : List Nat, (∀ j ∈ ts, j ∈ vs) → wipe σ' vs = wipe σ vs := by
  have key : ∀ (vs : List Nat) (σ : L2.St) (j : Nat), (wipe σ vs)[j]? = if j ∈ vs then (if j < σ.length then some none else none) else σ[j]? := by
    intro vs σ
    induction vs with
    | nil => intro j; simp [wipe]
    | cons v vs ih =>
      intro j
      unfold wipe
      by_cases hj : j = v
      · subst hj
        rw [if_pos List.mem_cons_self]
        by_cases hl : j < σ.length
        · rw [if_pos hl, List.getElem?_set_self (by rw [wipe_length]; exact hl)]
        · rw [if_neg hl, List.getElem?_eq_none (by rw [List.length_set, wipe_length]; omega)]
      · rw [List.getElem?_set_ne (Ne.symm hj), ih j]
        by_cases hm : j ∈ vs
        · rw [if_pos hm, if_pos (List.mem_cons_of_mem _ hm)]
        · rw [if_neg hm, if_neg (by simp [hj, hm])]
  intro vs hv
  apply List.ext_getElem?
  intro j
  rw [key, key, h.1]
  by_cases hm : j ∈ vs
  · rw [if_pos hm, if_pos hm]
  · rw [if_neg hm, if_neg hm]
    exact h.2 j fun m => hm (hv j m)
theorem wipe_wipe (σ : L2.St) (vs : List Nat) : wipe (wipe σ vs) vs = wipe σ vs := wipe_out (ts := vs) ⟨wipe_length σ vs, fun j hj => by
  induction vs with
  | nil => rfl
  | cons v vs ih =>
    unfold wipe
    rw [List.getElem?_set_ne (fun q => hj (by rw [q]; exact List.mem_cons_self))]
    exact ih fun m => hj (List.mem_cons_of_mem _ m)⟩ vs fun j m => m
theorem Ows.append {K : PySem.W.Frag} {mg : Str → Option Value} {G H : Hp} : ∀ {vs ws : List V} {xs ys : List SV} {r s : List Addr}, Ows K mg G H vs xs r → Ows K mg G H ws ys s → Ows K mg G H (vs ++ ws) (xs ++ ys) (r ++ s)
  | _, _, _, _, _, _, .nil, q => q
  | _, _, _, _, _, _, @Ows.cons _ _ _ _ v vs x xs r rs h t, q => by
    rw [List.append_assoc]
    exact .cons h (Ows.append t q)
theorem imp_comp {it : IT} {g : Tgt} {ts : List Nat} {t : FT} {elt : FO} {vs : List Nat} (hts : ∀ j ∈ ts, j ∈ vs) {σ : L2.St} {H : Hp} {Q : VK} (h : tO X.K X.mg W (vComp it g t elt vs) σ H Q) :
    tLc (tItR X.K X.mg W it) (tG X.K X.mg ts g) (tT X.K X.mg (fun _ _ _ _ => False) t) (tO X.K X.mg (fun _ _ _ _ => False) elt) vs σ H Q := by
  obtain ⟨G, env, fp, pv, rs, w⟩ := h
  refine ⟨G, env, fp, pv, rs, PostR.seq w fun items w J G1 H1 e1 io D hD => ?_⟩
  by_cases hsz : items.length ≤ 16777216
  · rw [cIf_pos hsz] at w
    have w0 := PostR.seq (k := fun ys => jO X.K X.mg Q G H (.own ys)) w fun ys q => q
    let Cst : Nat → Hp → Hp → Prop := fun i G2 H2 => ∃ accV accS r, Ext G1 H1 G2 H2 ∧ H2 D = some (.lst accV) ∧ G2 D = none ∧ Ows X.K X.mg G2 H2 accV accS r ∧ r.Nodup ∧ D ∉ r ∧ (∀ a ∈ r, H1 a = none ∧ G2 a = none) ∧
      PostR X.mg W σ H (fun ys => jO X.K X.mg Q G H (.own (accS ++ ys))) (compL g t elt (wipeE env vs) (items.drop i)) ∧ accV.length ≤ i
    have hG1 : G1 D = none := none_back e1.s hD
    refine ⟨fun i m H2 => m + i = items.length ∧ ∃ G2, Cst i G2 H2, ⟨items.length, by omega, G1, [], [], [], Ext.newO e1.s hD, upd_same, hG1, .nil, .nil, (by simp), (fun a m => by cases m), w0, Nat.zero_le _⟩, ?_⟩
    rintro i m H2 ⟨em, G2, accV, accS, r, e2, hD2, hG2, ow2, nd2, nD2, fr2, w2, hl2⟩
    obtain ⟨hstop, hgo⟩ := io G2 H2 e2.g e2.h e2.s
    by_cases hlt : i < items.length
    · right
      have ei : items[i]? = some items[i] := List.getElem?_eq_getElem hlt
      obtain ⟨go, yl⟩ := hgo i _ ei
      refine ⟨go, fun H' => ∃ G2, Cst (i + 1) G2 H', fun H' hN => ⟨m - 1, by omega, by omega, hN⟩, fun x H3 hy => ?_⟩
      obtain ⟨G3, e3, d3⟩ := yl x H3 hy
      rw [List.drop_eq_getElem_cons hlt] at w2
      obtain ⟨fpw, rsw⟩ := (rs.ext (e1.trans (e2.trans e3))).wipe vs
      refine ⟨G3, wipeE env vs, fpw, pv, items[i], rsw, d3, ?_⟩
      unfold compL at w2
      cases z : g items[i] (wipeE env vs) with
      | none => rw [z] at w2; exact w2.elim
      | some e4 =>
        rw [z] at w2
        intro σ4 fp4 h4 ho rs4
        refine ⟨(wipe_out ho vs hts).trans (wipe_wipe σ vs), G3, e4, fp4, pv, rs4, ?_⟩
        have w3 := PostR.seq (k := fun b => PostR X.mg W σ H _ (if b = true then _ else _)) w2 fun b q => q
        refine noE_ok w3 fun b w4 G5 H5 e5 => ?_
        cases b with
        | false =>
          rw [if_neg Bool.false_ne_true] at w4 ⊢
          have ex : Ext G2 H2 G5 H5 := e3.trans e5
          refine ⟨G5, accV, accS, r, e2.trans ex, ex.h _ _ hD2, ?_, ow2.mono ex.g (fun a m => ?_), nd2, nD2, fun a m => ⟨(fr2 a m).1, ?_⟩, w4, Nat.le_succ_of_le hl2⟩
          · cases q : G5 D with
            | none => rfl
            | some o =>
              rcases ex.n D o q with q | q
              · rw [hG2] at q; cases q
              · rw [hD2] at q; cases q
          · obtain ⟨o, ho⟩ := ow2.there a m
            rw [ho]; exact ex.h _ _ ho
          · cases q : G5 a with
            | none => rfl
            | some o =>
              obtain ⟨u, hu⟩ := ow2.there a m
              rcases ex.n a o q with q | q
              · rw [(fr2 a m).2] at q; cases q
              · rw [hu] at q; cases q
        | true =>
          rw [if_pos rfl] at w4 ⊢
          refine ⟨G5, e4, fp4, pv, rs4.ext e5, ?_⟩
          have w5 := PostR.seq (k := fun y => PostR X.mg W σ H _ ((compL g t elt (wipeE env vs) (items.drop (i + 1))).bind _)) w4 fun b q => q
          refine noE_ok w5 fun y w6 v G6 H6 r6 e6 ow6 nd6 fr6 => ?_
          have ex : Ext G2 H2 G6 H6 := (e3.trans e5).trans e6
          have ex5 : Ext G2 H2 G5 H5 := e3.trans e5
          have hD6 := ex.h _ _ hD2
          have nG : ∀ a u, H2 a = some u → G2 a = none → G6 a = none := fun a u hu hg => by
            cases q : G6 a with
            | none => rfl
            | some o =>
              rcases ex.n a o q with q | q
              · rw [hg] at q; cases q
              · rw [hu] at q; cases q
          have hG6 : G6 D = none := nG D _ hD2 hG2
          refine ⟨accV, hD6, ?_, G6, accV ++ [v], accS ++ [y], r ++ (r6 ++ []), ?_, upd_same, hG6, ?_, ?_, ?_, ?_, ?_, ?_⟩
          · rw [sl_eq]; omega
          · have E := e2.trans ex
            refine ⟨E.g, fun b o hb => ?_, fun b o hb => ?_, E.n⟩
            · rw [upd_ne (ne_of_none hb hD)]; exact E.h b o hb
            · rw [upd_ne (ne_of_none hb hG6)]; exact E.s b o hb
          · refine (ow2.mono ex.g fun a m => ?_).append (.cons (ow6.mono (Same.refl _) fun a m => ?_) .nil)
            · obtain ⟨o, ho⟩ := ow2.there a m
              rw [upd_ne (fun q => nD2 (by rw [← q]; exact m)), ho]
              exact ex.h _ _ ho
            · rw [upd_ne (fun q => ?_)]
              have z1 := (fr6 a m).1
              rw [q, ex5.h _ _ hD2] at z1
              cases z1
          · rw [List.append_nil]
            refine List.nodup_append.mpr ⟨nd2, nd6, fun a m b m' q => ?_⟩
            subst q
            obtain ⟨o, ho⟩ := ow2.there a m
            have z1 := (fr6 a m').1
            rw [ex5.h _ _ ho] at z1
            cases z1
          · rw [List.append_nil]
            intro m
            rcases List.mem_append.mp m with m | m
            · exact nD2 m
            · have z1 := (fr6 D m).1
              rw [ex5.h _ _ hD2] at z1
              cases z1
          · rw [List.append_nil]
            intro a m
            rcases List.mem_append.mp m with m | m
            · obtain ⟨o, ho⟩ := ow2.there a m
              exact ⟨(fr2 a m).1, nG a o ho (fr2 a m).2⟩
            · exact ⟨none_back ((e2.trans ex5).h) (fr6 a m).1, (fr6 a m).2⟩
          · have w7 := PostR.seq (k := fun ys => jO X.K X.mg Q G H (.own (accS ++ (y :: ys)))) w6 fun ys q => q
            refine PostR.imp w7 (Same.refl _) fun ys q => ?_
            rw [List.append_assoc]
            exact q
          · rw [List.length_append]
            show accV.length + 1 ≤ i + 1
            omega
    · left
      have ei : items.drop i = [] := List.drop_eq_nil_iff.mpr (by omega)
      rw [ei] at w2
      have w3 : jO X.K X.mg Q G H (.own (accS ++ [])) := w2
      rw [List.append_nil] at w3
      refine ⟨hstop i (by omega), w3 (.ref D) G2 H2 (D :: r) (e1.trans e2) (.own hD2 ow2) (List.nodup_cons.mpr ⟨nD2, nd2⟩) fun a m => ?_⟩
      rcases List.mem_cons.mp m with rfl | m
      · exact ⟨none_back e1.h hD, hG2⟩
      · exact ⟨none_back e1.h (fr2 a m).1, (fr2 a m).2⟩
  · rw [cIf_neg hsz] at w; exact w.elim
/-- a comprehension as a value -/
theorem vo_comp {it : IT} {g : Tgt} {ts : List Nat} {t : FT} {elt : FO} {own : List (Str × Nat)} {el : Expr} {ifs : List Expr} {scope : Scope} (hc : X.calm = true) (hN : X.N.Nodup) (hi : VIR X W tg e it) (ok : BlkOk X.N X.env.scope scope own)
    (hg : ∀ (s : Shared) (H : Hp) (C : Addr) (cl : List (Str × Addr)) (fp : List Addr), VG (X.blk s H scope (compEnvC scope cl C X.env) fp) ts tg g)
    (ht : ∀ (s : Shared) (H : Hp) (C : Addr) (cl : List (Str × Addr)) (fp : List Addr), VTs (X.blk s H scope (compEnvC scope cl C X.env) fp) (fun _ _ _ _ => False) ifs t)
    (he : ∀ (s : Shared) (H : Hp) (C : Addr) (cl : List (Str × Addr)) (fp : List Addr), VO (X.blk s H scope (compEnvC scope cl C X.env) fp) (fun _ _ _ _ => False) el elt)
    (hts : ∀ j ∈ ts, j ∈ own.map (·.2)) (hs : ∀ x, foldedSetIterable e X.env x = pure x := by intro _; rfl) : VO X W (.ListComp el [⟨tg, e, ifs, 0⟩] scope pos) (vComp it g t elt (own.map (·.2))) :=
  pe_imp (pe_lc hc hN hi ok hg ht he hs) fun σ H Q h => imp_comp hts h
/-- x = [..] -/
theorem vs_setLc {i : Nat} {y : Str} {py spos : Pos} {it : IT} {g : Tgt} {ts : List Nat} {t : FT} {elt : FO} {own : List (Str × Nat)} {el : Expr} {ifs : List Expr} {scope : Scope} (hc : X.calm = true) (hN : X.N.Nodup) (hy : X.N[i]? = some y) (hyl : X.env.scope.names.lookup y = some .local)
    (hsw : swapsWith (.ListComp el [⟨tg, e, ifs, 0⟩] scope pos) (some (.Name y py)) spos.line X.env = pure true) (hi : VIR X W tg e it) (ok : BlkOk X.N X.env.scope scope own)
    (hg : ∀ (s : Shared) (H : Hp) (C : Addr) (cl : List (Str × Addr)) (fp : List Addr), VG (X.blk s H scope (compEnvC scope cl C X.env) fp) ts tg g)
    (ht : ∀ (s : Shared) (H : Hp) (C : Addr) (cl : List (Str × Addr)) (fp : List Addr), VTs (X.blk s H scope (compEnvC scope cl C X.env) fp) (fun _ _ _ _ => False) ifs t)
    (he : ∀ (s : Shared) (H : Hp) (C : Addr) (cl : List (Str × Addr)) (fp : List Addr), VO (X.blk s H scope (compEnvC scope cl C X.env) fp) (fun _ _ _ _ => False) el elt)
    (hts : ∀ j ∈ ts, j ∈ own.map (·.2)) (hs : ∀ x, foldedSetIterable e X.env x = pure x := by intro _; rfl) : VS X W (.Assign [.Name y py] (.ListComp el [⟨tg, e, ifs, 0⟩] scope pos) spos) (vSetO i (vComp it g t elt (own.map (·.2)))) :=
  ps_imp (ps_setLc hc hN hy hyl hsw hi ok hg ht he hs) fun D σ H h => imp_comp hts (imp_setO h)
/-- x = [..], frozen at once -/
theorem imp_fr {f : FO} {σ : L2.St} {H : Hp} {Q : VK} (h : tP X.K X.mg W (frO f) σ H Q) : tO X.K X.mg W f σ H Q := by
  obtain ⟨G, env, fp, pv, rs, w⟩ := h
  refine ⟨G, env, fp, pv, rs, PostR.seq w fun s w v G' H' r ex ow nd fr => ?_⟩
  cases z : s.frz? with
  | none => rw [z] at w; exact w.elim
  | some x =>
    rw [z] at w
    have g : Same G' (gu G' H' r) := gu_same ex.s
    refine w v (gu G' H' r) H' ⟨ex.g.trans g, ex.h, gu_sub ex.s, fun a o e => ?_⟩ (ow.frozenF g (fun a m o e => by rw [gu_in m]; exact e) z)
    by_cases m : a ∈ r
    · exact .inr (fr a m).1
    · rw [gu_out m] at e; exact ex.n a o e
theorem vs_setLcF {i : Nat} {y : Str} {py spos : Pos} {it : IT} {g : Tgt} {ts : List Nat} {t : FT} {elt : FO} {own : List (Str × Nat)} {el : Expr} {ifs : List Expr} {scope : Scope} (hc : X.calm = true) (hN : X.N.Nodup) (hy : X.N[i]? = some y) (hyl : X.env.scope.names.lookup y = some .local)
    (hsw : swapsWith (.ListComp el [⟨tg, e, ifs, 0⟩] scope pos) (some (.Name y py)) spos.line X.env = pure true) (hi : VIR X W tg e it) (ok : BlkOk X.N X.env.scope scope own)
    (hg : ∀ (s : Shared) (H : Hp) (C : Addr) (cl : List (Str × Addr)) (fp : List Addr), VG (X.blk s H scope (compEnvC scope cl C X.env) fp) ts tg g)
    (ht : ∀ (s : Shared) (H : Hp) (C : Addr) (cl : List (Str × Addr)) (fp : List Addr), VTs (X.blk s H scope (compEnvC scope cl C X.env) fp) (fun _ _ _ _ => False) ifs t)
    (he : ∀ (s : Shared) (H : Hp) (C : Addr) (cl : List (Str × Addr)) (fp : List Addr), VO (X.blk s H scope (compEnvC scope cl C X.env) fp) (fun _ _ _ _ => False) el elt)
    (hts : ∀ j ∈ ts, j ∈ own.map (·.2)) (hs : ∀ x, foldedSetIterable e X.env x = pure x := by intro _; rfl) : VS X W (.Assign [.Name y py] (.ListComp el [⟨tg, e, ifs, 0⟩] scope pos) spos) (vSet i (frO (vComp it g t elt (own.map (·.2))))) :=
  ps_imp (ps_setLc hc hN hy hyl hsw hi ok hg ht he hs) fun D σ H h => imp_comp hts (imp_fr (imp_set h))

/-! ### defs -/
inductive FOut where
  | ret (s : SV) (a : List Slot)
  | exc (c : Str)
  | bad
abbrev Fn := List Slot → FOut
def PostF (K : PySem.W.Frag) (mg : Str → Option Value) (E : XK) (Q : VK) (G H : Hp) (fp : Nat → List Addr) (vs : List V) (pv : Nat → V) : FOut → Prop
  | .ret s a => ∀ v G' H' fp' r, Stp G H fp G' H' fp' → RS K mg G' (vs.map some) a H' fp' pv → Ow K mg G' H' v s r → r.Nodup → (∀ b ∈ r, G' b = none ∧ (∀ i, b ∉ fp' i) ∧ (H b = none ∨ ∃ j, b ∈ fp j)) → Q v H'
  | .exc c => ∀ C G' H', mg c = some (.ref C) → Stp G H fp G' H' (fun _ => []) → Same G' H' → E (.ref C) none H'
  | .bad => False
def spV (K : PySem.W.Frag) (mg : Str → Option Value) (n : Nat) (S : Fn) : Sp := fun vs H Q E => vs.length = n ∧ ∃ G args fp pv, RS K mg G (vs.map some) args H fp pv ∧ PostF K mg E Q G H fp vs pv (S args)
/-- the arguments behind the body -/
def backA : List Slot → Env → List Slot
  | [], _ => []
  | .rf _ :: r, e => (match e with | .rf s :: _ => .rf s | _ => .no) :: backA r e.tail
  | .va (.f x) :: r, e => .va (.f x) :: backA r e.tail
  | _ :: r, e => .no :: backA r e.tail
def mkFn (nl : Nat) (body : ST) : Fn := fun args => match body (args ++ List.replicate nl .no) with
  | .rt s e => .ret s (backA args e)
  | .nx e => .ret (.f (.d .none)) (backA args e)
  | .err c _ => .exc c
  | .bad => .bad
theorem backA_length : ∀ (args : List Slot) (e : Env), (backA args e).length = args.length
  | [], _ => rfl
  | .no :: r, e => congrArg (· + 1) (backA_length r e.tail)
  | .vw _ :: r, e => congrArg (· + 1) (backA_length r e.tail)
  | .rf _ :: r, e => congrArg (· + 1) (backA_length r e.tail)
  | .va (.f _) :: r, e => congrArg (· + 1) (backA_length r e.tail)
  | .va (.own _) :: r, e => congrArg (· + 1) (backA_length r e.tail)
  | .va (.otup _) :: r, e => congrArg (· + 1) (backA_length r e.tail)
  | .va (.obj _ _) :: r, e => congrArg (· + 1) (backA_length r e.tail)
/-- what a slot behind the body is -/
theorem backA_get : ∀ (args : List Slot) (e : Env) (i : Nat) (s : Slot), (backA args e)[i]? = some s → s = .no ∨ (∃ x, s = .va (.f x) ∧ args[i]? = some s) ∨ (∃ t t', s = .rf t ∧ args[i]? = some (.rf t') ∧ e[i]? = some s)
  | [], _, i, s, h => by simp [backA] at h
  | .no :: r, e, 0, s, h => .inl (Option.some.inj h).symm
  | .vw _ :: r, e, 0, s, h => .inl (Option.some.inj h).symm
  | .va (.f x) :: r, e, 0, s, h => .inr (.inl ⟨x, (Option.some.inj h).symm, by rw [(Option.some.inj h).symm]; rfl⟩)
  | .va (.own _) :: r, e, 0, s, h => .inl (Option.some.inj h).symm
  | .va (.otup _) :: r, e, 0, s, h => .inl (Option.some.inj h).symm
  | .va (.obj _ _) :: r, e, 0, s, h => .inl (Option.some.inj h).symm
  | .rf t' :: r, [], 0, s, h => .inl (Option.some.inj h).symm
  | .rf t' :: r, .no :: _, 0, s, h => .inl (Option.some.inj h).symm
  | .rf t' :: r, .va _ :: _, 0, s, h => .inl (Option.some.inj h).symm
  | .rf t' :: r, .vw _ :: _, 0, s, h => .inl (Option.some.inj h).symm
  | .rf t' :: r, .rf t :: _, 0, s, h => by
    have e : s = .rf t := (Option.some.inj h).symm
    subst e
    exact .inr (.inr ⟨t, t', rfl, rfl, rfl⟩)
  | a :: r, e, i + 1, s, h => by
    have h' : (backA r e.tail)[i]? = some s := by
      cases a with
      | no => exact h
      | vw _ => exact h
      | rf _ => exact h
      | va t => cases t <;> exact h
    rcases backA_get r e.tail i s h' with q | ⟨x, q1, q2⟩ | ⟨t, t', q1, q2, q3⟩
    · exact .inl q
    · exact .inr (.inl ⟨x, q1, by simpa using q2⟩)
    · refine .inr (.inr ⟨t, t', q1, by simpa using q2, ?_⟩)
      cases e with
      | nil => cases q3
      | cons y e => simpa using q3
theorem RS.back {K : PySem.W.Frag} {mg : Str → Option Value} {G G' H H' : Hp} {vs : List V} {args : List Slot} {fp fp' : Nat → List Addr} {pv : Nat → V} {σ : L2.St} {e : Env} (h : RS K mg G (vs.map some) args H fp pv) (st : Stp G H fp G' H' fp') (h' : RS K mg G' σ e H' fp' pv) :
    ∃ fp2, RS K mg G' (vs.map some) (backA args e) H' fp2 pv ∧ ∀ i a, a ∈ fp2 i → a ∈ fp' i := by
  refine ⟨fun i => match (backA args e)[i]? with | some (.rf _) => fp' i | _ => [], ⟨?_, fun i s q => ?_, fun i hi => ?_, h'.sub, fun i a m => ?_, fun i => ?_, fun i j a m1 m2 => ?_⟩, fun i a m => ?_⟩
  · rw [backA_length]; exact h.len
  · rcases backA_get args e i s q with rfl | ⟨x, rfl, q2⟩ | ⟨t, t', rfl, q2, q3⟩
    · show (match (backA args e)[i]? with | some (.rf _) => fp' i | _ => []) = []
      rw [q]
    · obtain ⟨v, e1, ow⟩ := h.rel i _ q2
      refine ⟨v, e1, ?_⟩
      have z : (match (backA args e)[i]? with | some (.rf _) => fp' i | _ => []) = [] := by rw [q]
      rw [z]
      generalize fp i = r at ow
      cases ow with
      | f ow => exact .f (ow.mono st.g)
    · obtain ⟨e1, _⟩ := h.rel i _ q2
      obtain ⟨_, ow⟩ := h'.rel i _ q3
      refine ⟨e1, ?_⟩
      have z : (match (backA args e)[i]? with | some (.rf _) => fp' i | _ => []) = fp' i := by rw [q]
      rw [z]
      exact ow
  · have q : (backA args e)[i]? = none := List.getElem?_eq_none hi
    show (match (backA args e)[i]? with | some (.rf _) => fp' i | _ => []) = []
    rw [q]
  · have m' : a ∈ (match (backA args e)[i]? with | some (.rf _) => fp' i | _ => []) := m
    split at m'
    · exact h'.out i a m'
    · cases m'
  · show (match (backA args e)[i]? with | some (.rf _) => fp' i | _ => []).Nodup
    split
    · exact h'.nd i
    · exact .nil
  · have m1' : a ∈ (match (backA args e)[i]? with | some (.rf _) => fp' i | _ => []) := m1
    have m2' : a ∈ (match (backA args e)[j]? with | some (.rf _) => fp' j | _ => []) := m2
    split at m1'
    · split at m2'
      · exact h'.dj i j a m1' m2'
      · cases m2'
    · cases m1'
  · have m' : a ∈ (match (backA args e)[i]? with | some (.rf _) => fp' i | _ => []) := m
    split at m'
    · exact m'
    · cases m'
theorem RS.start {K : PySem.W.Frag} {mg : Str → Option Value} {G H : Hp} {vs : List V} {args : List Slot} {fp : Nat → List Addr} {pv : Nat → V} (h : RS K mg G (vs.map some) args H fp pv) (nl : Nat) : RS K mg G (vs.map some ++ List.replicate nl none) (args ++ List.replicate nl .no) H fp pv where
  len := by simp [h.len]
  rel := fun i s q => by
    by_cases hi : i < args.length
    · rw [List.getElem?_append_left hi] at q
      rw [List.getElem?_append_left (by rw [← h.len]; exact hi)]
      exact h.rel i s q
    · rw [List.getElem?_append_right (by omega)] at q
      have e : s = .no := by
        have m := List.mem_of_getElem? q
        exact (List.mem_replicate.mp m).2
      subst e
      exact h.nil i (by omega)
  nil := fun i hi => h.nil i (by simp at hi; omega)
  sub := h.sub
  out := h.out
  nd := h.nd
  dj := h.dj
/-- the body tells the promise -/
theorem spV_len {K : PySem.W.Frag} {mg : Str → Option Value} {n : Nat} {S : Fn} : ∀ vs H Q E, spV K mg n S vs H Q E → vs.length = n := fun _ _ _ _ h => h.1
/-- the wish of a def's body -/
def WF (E : XK) : WX := fun cls d _ H => E cls d H
theorem body_ok {K : PySem.W.Frag} {mg : Str → Option Value} {N : List Str} {n nl : Nat} {body : ST} {vs : List V} {H : Hp} {Q : VK} {E : XK} (hn : N.length - n = nl) (h : spV K mg n (mkFn nl body) vs H Q E) :
    tS K mg (WF E) body { nx := fun _ H' => Q .non H', rt := Q } (L2.start N vs) H := by
  obtain ⟨hl, G, args, fp, pv, rs, w⟩ := h
  have e : L2.start N vs = vs.map some ++ List.replicate nl none := by unfold L2.start; rw [hl, hn]
  rw [e]
  refine ⟨G, args ++ List.replicate nl .no, fp, pv, rs.start nl, ?_⟩
  unfold mkFn at w
  cases z : body (args ++ List.replicate nl .no) with
  | nx e2 =>
    rw [z] at w
    intro G' σ' H' fp' st rs'
    obtain ⟨fp2, rb, sb⟩ := rs.back st rs'
    exact w .non G' H' fp2 [] (st.sub fun i a m => st.f i a (sb i a m)) rb (.f (.d .non)) .nil fun a m => by cases m
  | rt s e2 =>
    rw [z] at w
    intro v G' σ' H' fp' r st rs' ow nd fr
    obtain ⟨fp2, rb, sb⟩ := rs.back st rs'
    exact w v G' H' fp2 r (st.sub fun i a m => st.f i a (sb i a m)) rb ow nd fun a m => ⟨(fr a m).1, fun i q => (fr a m).2.1 i (sb i a q), (fr a m).2.2⟩
  | err c e2 =>
    rw [z] at w
    exact fun C G' σ' H' fp' m st rs' => w C G' H' m (st.sub fun _ _ m => by cases m) rs'.sub
  | bad => rw [z] at w; exact w.elim
/-- a def of the text keeps what its function tells -/
theorem fn_ok {P : Program} {w : World} {K : PySem.W.Frag} {mg : Str → Option Value} {base : Heap} {x qual : Str} {st : Stmt} {f : Addr} {fd : FuncData} {N ps : List Str} {k n nl : Nat} {body : ST} (F : Fun K x qual st f fd) (S : FnScope N ps (defScope st)) (hps : ps.length = n) (hn : N.length - n = nl)
    (hb : ∀ (cdv : Value) (A : Around) (outer : List PySem.Env) (s : Shared) (H : Hp) (E : XK), Room k (A.deeper (envOfC qual (defScope st) s.heap.objs.size f cdv)) →
      VSs (cxOf (L2.CX P w) P w K mg base N qual (defScope st) f cdv A outer s H E) (WF E) (defBody st) body) : FnOk P w K mg base (L2.CX P w) (k + 1) f fd ps (spV K mg n (mkFn nl body)) :=
  F.okX S (fun vs H Q E h => by rw [hps]; exact h.1) fun cdv A outer s H vs Q E hr h => ⟨_, hb cdv A outer s H E hr, body_ok hn h⟩
end
end VL

set_option Elab.async false
set_option linter.all false
set_option maxRecDepth 100000
set_option maxHeartbeats 4000000
namespace VL
open PySem PySem.Spec PyProof.Rows L2

section
variable {X : Cx} {W : WX} {a b c e o tg : Expr} {es : List Expr} {pos : Pos} {st : Stmt} {sts : List Stmt}
/-! ### arguments -/
def tAN (K : PySem.W.Frag) (mg : Str → Option Value) (W : WX) (n : Nat) (f : Env → Res (List FV)) : TA := fun σ H Q => ∃ G env fp pv, RS K mg G σ env H fp pv ∧
  PostR mg W σ H (fun xs => ∀ vs G' H', Ext G H G' H' → Fqs K mg G' vs xs → xs.length = n → Q vs H') (f env)
abbrev VAN (X : Cx) (W : WX) (n : Nat) (es : List Expr) (f : Env → Res (List FV)) : Prop := PA X es (tAN X.K X.mg W n f)
def aN : Env → Res (List FV) := fun _ => .ok []
def aC (f : FP) (g : Env → Res (List FV)) : Env → Res (List FV) := fun env => (f env).bind fun x => (g env).bind fun xs => .ok (x :: xs)
theorem van_nil : VAN X W 0 [] aN := pa_imp pa_nil fun σ H Q ⟨G, env, fp, pv, rs, w⟩ => w [] G H (Ext.refl rs.sub) .nil rfl
theorem van_cons {n : Nat} {f : FP} {g : Env → Res (List FV)} (ha : VP X W e f) (hr : VAN X W n es g) (hs : starEach (e :: es) X.env = (false, eval e X.env) :: starEach es X.env) : VAN X W (n + 1) (e :: es) (aC f g) :=
  pa_imp (pa_cons ha hr hs) fun σ H Q ⟨G, env, fp, pv, rs, w⟩ => ⟨G, env, fp, pv, rs, by
    have w' := PostR.seq (k := fun x => PostR X.mg W σ H _ ((g env).bind _)) w fun y w => w
    exact PostR.imp w' (Same.refl _) fun x w v G1 H1 e1 q1 => ⟨G1, env, fp, pv, rs.ext e1, PostR.imp (PostR.seq (k := fun y => PostR X.mg W σ H _ (Res.ok (x :: y))) w fun y w => w) e1.h fun xs w vs G2 H2 e2 q2 hl => w (v :: vs) G2 H2 (e1.trans e2) (.cons (q1.mono e2.g) q2) (by simp [hl])⟩⟩
theorem Fqs.length {K : PySem.W.Frag} {mg : Str → Option Value} {G : Hp} {vs : List V} {xs : List FV} (h : Fqs K mg G vs xs) : vs.length = xs.length := by
  induction h with
  | nil => rfl
  | cons _ _ ih => simp [ih]
theorem Fqs.get {K : PySem.W.Frag} {mg : Str → Option Value} {G : Hp} : ∀ {vs : List V} {xs : List FV} {i : Nat} {x : FV}, Fqs K mg G vs xs → xs[i]? = some x → ∃ v, vs[i]? = some v ∧ Fq K mg G v x
  | _, _, _, _, .nil, e => by simp at e
  | _, _, 0, _, .cons h t, e => by simp at e; subst e; exact ⟨_, rfl, h⟩
  | _, _, i + 1, x, .cons h t, e => by simpa using Fqs.get (i := i) t (by simpa using e)
def vaF (x : FV) : Slot := .va (.f x)
theorem RS.args {K : PySem.W.Frag} {mg : Str → Option Value} {G H : Hp} {vs : List V} {xs : List FV} (s : Same G H) (h : Fqs K mg G vs xs) : RS K mg G (vs.map some) (xs.map vaF) H (fun _ => []) (fun _ => .non) where
  len := by rw [List.length_map, List.length_map, h.length]
  rel := fun i u q => by
    rw [List.getElem?_map] at q
    cases z : xs[i]? with
    | none => rw [z] at q; cases q
    | some x =>
      rw [z] at q
      cases q
      obtain ⟨v, hv, fq⟩ := h.get z
      exact ⟨v, by rw [List.getElem?_map, hv]; rfl, .f fq⟩
  nil := fun _ _ => rfl
  sub := s
  out := fun _ _ m => by cases m
  nd := fun _ => .nil
  dj := fun _ _ _ m => by cases m
theorem Stp.ext0 {G H G' H' : Hp} {fp' : Nat → List Addr} (st : Stp G H (fun _ => []) G' H' fp') (s : Same G' H') : Ext G H G' H' where
  g := st.g
  h := fun b o h => st.fr b o h fun _ m => by cases m
  s := s
  n := fun a o q => by
    rcases st.n a o q with z | z | ⟨_, m⟩
    · exact .inl z
    · exact .inr z
    · cases m
/-! ### a call of a def, every argument frozen -/
def outR : FOut → Res SV
  | .ret s _ => .ok s
  | .exc c => .err c
  | .bad => .bad
def vCall (S : Fn) (fs : Env → Res (List FV)) : FO := fun env => (fs env).bind fun xs => outR (S (xs.map vaF))
theorem vo_call {k n : Nat} {f : Addr} {fd : FuncData} {ps : List Str} {S : Fn} {x : Str} {p : Pos} {fs : Env → Res (List FV)} (F : FnOk X.prog X.w X.K X.mg X.base (L2.CX X.prog X.w) k f fd ps (spV X.K X.mg n S)) (hr : Room k X.A) (hm : X.mg x = some (.ref f)) (hk : PySem.W.keepIn X.K (.ref f) = true) (hb : Binds X.K fd ps [])
    (tk : Takes X W) (ha : VAN X W n (e :: es) fs) (hg : Gl X x) (hdb : (x == ("__debug__" : Str)) = false := by decide) (he : starEach (e :: es) X.env = (false, eval e X.env) :: starEach es X.env := by rfl) (hpl : (backTo pos (starEach es X.env)).any (·.1) = false := by rfl) :
    VO X W (.Call (.Name x p) (e :: es) [] pos) (vCall S fs) :=
  pe_imp (pe_callS F hr hg hm hk hb (fun σ => passAt tk σ) ha hdb he hpl) fun σ H Q ⟨G, env, fp, pv, rs, w⟩ => ⟨G, env, fp, pv, rs, PostR.seq w fun xs w vs G1 H1 e1 q1 hl => by
    refine ⟨by rw [q1.length]; exact hl, G1, xs.map vaF, fun _ => [], fun _ => .non, RS.args e1.s q1, ?_⟩
    cases z : S (xs.map vaF) with
    | ret s as =>
      rw [z] at w
      refine fun v G2 H2 fp2 r st rs2 ow nd fr => w v G2 H2 r (e1.trans (st.ext0 rs2.sub)) ow nd fun a m => ⟨?_, (fr a m).1⟩
      rcases (fr a m).2.2 with q | ⟨_, q⟩
      · exact none_back e1.h q
      · cases q
    | exc c =>
      rw [z] at w
      exact fun C G2 H2 m k _ => w C H2 m (e1.h.trans fun b o h => k.fr b o h fun _ q => by cases q)
    | bad => rw [z] at w; exact w.elim⟩
/-! ### a class called -/
theorem run_makeS {CX : CXT} {k : Nat} {C f : Addr} {fd : FuncData} {ps : List Str} {sp : Sp} {E : L2.St → XK} {pins : List (Addr × Obj)} {σ : L2.St} {H : Hp} {s : Shared} {Q : VK} {us : List Value} {vs : List V} (M : Mk X.K C f) (F : FnOk X.prog X.w X.K X.mg X.base CX k f fd ps sp) (hr : Room (k + 1) X.A) (hb : Binds X.K fd ps [])
    (hx : PassesAt CX X σ (E σ)) (I : Inv X pins σ H s) (r : Vals vs us)
    (h : ∀ x dx, H x = none → H dx = none → dx ≠ x → sp (.ref x :: vs) (upd (upd H dx (.own x)) x (.ins C dx [])) (fun v H2 => v = .non ∧ Q (.ref x) H2) (E σ)) :
    wpAny (model X.prog X.w) X.A (call (.ref C) us) (EP X pins σ Q) X.xe s := by
  have hq := h (s.heap.objs.size + 1) s.heap.objs.size (I.hok.fresh (Nat.le_succ _)) (I.hok.fresh (Nat.le_refl _)) (Nat.ne_of_lt (Nat.lt_succ_self _))
  have I2 := Inv.made (C := C) I
  have r2 : Vals (V.ref (s.heap.objs.size + 1) :: vs) (Value.ref (s.heap.objs.size + 1) :: us) := .cons rfl r
  have hl : (Value.ref (s.heap.objs.size + 1) :: us).length = ps.length := by
    have e := r2.length
    rw [F.len _ _ _ _ hq] at e
    exact e.symm
  have b := hb _ (Value.ref (s.heap.objs.size + 1) :: us) I2.kIn (by rw [List.append_nil]; exact hl)
  rw [List.append_nil] at b
  refine wpAny_call (make_map (f := f) I.kIn M.makes M.init (beq_iff_eq.mp M.fn) (codeAny_mono (F.run _ X.stack _ _ ⟨Value.ref (s.heap.objs.size + 1) :: us, []⟩ (Value.ref (s.heap.objs.size + 1) :: us) _ _ (E σ) (hr.make C us [])
    (I2.env0.make C us []) b r2 hq) fun r s' hq' => ?_))
  cases r with
  | error e => exact hx pins _ _ e s' I2 hq'
  | ok fl =>
    cases fl with
    | ret u =>
      obtain ⟨v, H', I3, rv, ev, q3⟩ := I2.after hq'
      subst ev
      exact ⟨rv, ⟨V.ref (s.heap.objs.size + 1), H', I3, rfl, q3⟩⟩
    | next => exact False.elim hq'
    | brk => exact False.elim hq'
    | cont => exact False.elim hq'
def tMakeS (C : Addr) (sp : Sp) (E : L2.St → XK) (t : TA) : TE := fun σ H Q => t σ H fun vs H1 => ∀ x dx, H1 x = none → H1 dx = none → dx ≠ x →
  sp (.ref x :: vs) (upd (upd H1 dx (.own x)) x (.ins C dx [])) (fun v H2 => v = .non ∧ Q (.ref x) H2) (E σ)
theorem pe_makeS {CX : CXT} {k : Nat} {C f : Addr} {fd : FuncData} {ps : List Str} {sp : Sp} {E : L2.St → XK} {x : Str} {p : Pos} {t : TA} (M : Mk X.K C f) (F : FnOk X.prog X.w X.K X.mg X.base CX k f fd ps sp) (hr : Room (k + 1) X.A) (hg : Gl X x) (hm : X.mg x = some (.ref C)) (hb : Binds X.K fd ps []) (hx : ∀ σ, PassesAt CX X σ (E σ))
    (ha : PA X (e :: es) t) (hdb : (x == ("__debug__" : Str)) = false := by decide) (he : starEach (e :: es) X.env = (false, eval e X.env) :: starEach es X.env := by rfl) (hpl : (backTo pos (starEach es X.env)).any (·.1) = false := by rfl) :
    PE X (.Call (.Name x p) (e :: es) [] pos) (tMakeS C sp E t) := by
  refine ⟨fun pins s σ H Q I h => ?_⟩
  refine wpAny_Call_Name_kw (ld_glob I hg hm ?_ hdb)
  refine PySem.W.callWith_K (h₀ := X.base) I.ok.mod.kin M.kp (thn (ha.run pos pins s σ H _ I h) fun us s1 ⟨vs, H1, I1, r, q⟩ => ⟨I1.kIn, ?_⟩) he hpl
  exact run_makeS M F hr hb (hx σ) I1 r q
def outM : FOut → Res SV
  | .ret (.f (.d .none)) (.rf s :: _) => .ok s
  | .exc c => .err c
  | _ => .bad
def vMake (c : Str) (S : Fn) (fs : Env → Res (List FV)) : FO := fun env => (fs env).bind fun xs => outM (S (.rf (.obj c []) :: xs.map vaF))
theorem vo_make {k n : Nat} {C f : Addr} {fd : FuncData} {ps : List Str} {S : Fn} {x : Str} {p : Pos} {fs : Env → Res (List FV)} (M : Mk X.K C f) (F : FnOk X.prog X.w X.K X.mg X.base (L2.CX X.prog X.w) k f fd ps (spV X.K X.mg (n + 1) S)) (hr : Room (k + 1) X.A) (hm : X.mg x = some (.ref C)) (hb : Binds X.K fd ps [])
    (tk : Takes X W) (ha : VAN X W n (e :: es) fs) (hg : Gl X x) (hdb : (x == ("__debug__" : Str)) = false := by decide) (he : starEach (e :: es) X.env = (false, eval e X.env) :: starEach es X.env := by rfl) (hpl : (backTo pos (starEach es X.env)).any (·.1) = false := by rfl) :
    VO X W (.Call (.Name x p) (e :: es) [] pos) (vMake x S fs) :=
  pe_imp (pe_makeS M F hr hg hm hb (fun σ => passAt tk σ) ha hdb he hpl) fun σ H Q ⟨G, env, fp, pv, rs, w⟩ => ⟨G, env, fp, pv, rs, PostR.seq w fun xs w vs G1 H1 e1 q1 hl y dx hy hdx hne => by
    have hH : ∀ b o, H1 b = some o → (upd (upd H1 dx (.own y)) y (.ins C dx [])) b = some o := fun b o h => by
      rw [upd_ne (ne_of_none h hy), upd_ne (ne_of_none h hdx)]; exact h
    have hy1 : G1 y = none := none_back e1.s hy
    have ra := RS.args (K := X.K) (mg := X.mg) e1.s q1
    have rs1 : RS X.K X.mg G1 ((V.ref y :: vs).map some) (.rf (.obj x []) :: xs.map vaF) (upd (upd H1 dx (.own y)) y (.ins C dx [])) (fun i => if i = 0 then [y] else []) (fun _ => .ref y) := by
      refine ⟨by simp [q1.length], fun i u q => ?_, fun i hi => ?_, fun b o h => hH b o (e1.s b o h), fun i a m => ?_, fun i => ?_, fun i j a m1 m2 => ?_⟩
      · cases i with
        | zero =>
          cases q
          exact ⟨rfl, .obj hm upd_same .nil⟩
        | succ i =>
          have q' : (xs.map vaF)[i]? = some u := q
          have r := ra.rel i u q'
          have r2 := slotOk.mono (Same.refl _) hH r
          exact (by
            cases u with
            | no => rfl
            | va s => exact r2
            | rf s =>
              rw [List.getElem?_map] at q'
              cases z : xs[i]? with
              | none => rw [z] at q'; cases q'
              | some x => rw [z] at q'; cases q'
            | vw p => exact r2)
      · have : i ≠ 0 := by intro z; subst z; simp at hi
        show (if i = 0 then [y] else []) = []
        rw [if_neg this]
      · by_cases hi : i = 0
        · rw [if_pos hi] at m
          have e : a = y := by simpa using m
          rw [e]; exact hy1
        · rw [if_neg hi] at m; cases m
      · show (if i = 0 then [y] else []).Nodup
        by_cases hi : i = 0
        · rw [if_pos hi]; simp
        · rw [if_neg hi]; exact .nil
      · by_cases hi : i = 0
        · by_cases hj : j = 0
          · rw [hi, hj]
          · rw [if_neg hj] at m2; cases m2
        · rw [if_neg hi] at m1; cases m1
    refine ⟨by simp [q1.length, hl], G1, _, _, _, rs1, ?_⟩
    cases z : S (.rf (.obj x []) :: xs.map vaF) with
    | ret s as =>
      rw [z] at w
      intro v G2 H2 fp2 r st rs2 ow nd fr
      match s, as, w, ow, rs2 with
      | .f (.d .none), .rf s' :: as, w, ow, rs2 =>
        have hv : v = .non := by
          generalize r = r' at ow
          cases ow with
          | f q => cases q with | d q => cases q; rfl
        obtain ⟨_, ow2⟩ := rs2.rel 0 _ rfl
        have hx : ∀ b o, H1 b = some o → H2 b = some o := fun b o h => st.fr b o (hH b o h) fun i m => by
          by_cases hi : i = 0
          · rw [if_pos hi] at m
            have e : b = y := by simpa using m
            rw [e, hy] at h; cases h
          · rw [if_neg hi] at m; cases m
        have back : ∀ a, (upd (upd H1 dx (.own y)) y (.ins C dx [])) a = none → H1 a = none := fun a h => by
          cases q : H1 a with
          | none => rfl
          | some o => rw [hH a o q] at h; cases h
        have inY : ∀ a j, a ∈ (if j = 0 then [y] else []) → H1 a = none := fun a j m => by
          by_cases hj : j = 0
          · rw [if_pos hj] at m
            have e : a = y := by simpa using m
            rw [e]; exact hy
          · rw [if_neg hj] at m; cases m
        refine ⟨hv, w (.ref y) G2 H2 (fp2 0) (e1.trans ⟨st.g, hx, rs2.sub, fun a o q => ?_⟩) ow2 (rs2.nd 0) fun a m => ⟨?_, rs2.out 0 a m⟩⟩
        · rcases st.n a o q with q | q | ⟨j, q⟩
          · exact .inl q
          · exact .inr (back a q)
          · exact .inr (inY a j q)
        · rcases st.f 0 a m with q | ⟨j, q⟩
          · exact none_back e1.h (back a q)
          · exact none_back e1.h (inY a j q)
    | exc c =>
      rw [z] at w
      refine fun C' G2 H2 m k _ => w C' H2 m (e1.h.trans fun b o h => k.fr b o (hH b o h) fun i q => ?_)
      have q : b ∈ (if i = 0 then [y] else []) := q
      by_cases hi : i = 0
      · rw [if_pos hi] at q
        have e : b = y := by simpa using q
        rw [e, hy] at h; cases h
      · rw [if_neg hi] at q; cases q
    | bad => rw [z] at w; exact w.elim⟩
end

/-! ### what a slot holds is changed -/
def dv : Slot → Slot
  | .vw _ => .no
  | s => s
theorem dv_get {env : Env} {j : Nat} {s : Slot} (h : (env.map dv)[j]? = some s) : ∃ t, env[j]? = some t ∧ s = dv t := by
  rw [List.getElem?_map] at h
  cases z : env[j]? with
  | none => rw [z] at h; cases h
  | some t => rw [z] at h; exact ⟨t, rfl, (Option.some.inj h).symm⟩
inductive Kind where
  | va
  | rf
def Kind.mk : Kind → SV → Slot
  | .va, s => .va s
  | .rf, s => .rf s
section
variable {K : PySem.W.Frag} {mg : Str → Option Value} {G H H' : Hp} {fp : Nat → List Addr} {σ : L2.St} {env : Env} {pv : Nat → V}
theorem RS.put {i : Nat} {kd : Kind} {s s' : SV} {v : V} {r : List Addr} (h : RS K mg G σ env H fp pv) (hs : env[i]? = some (kd.mk s)) (hv : σ[i]? = some (some v)) (hp : kd = .rf → v = pv i) (hH : ∀ b, b ∉ fp i → (∃ o, H b = some o) → H' b = H b) (ow : Ow K mg G H' v s' r) (nd : r.Nodup) (hr : ∀ b ∈ r, G b = none ∧ ∀ j, j ≠ i → b ∉ fp j) :
    RS K mg G σ ((env.map dv).set i (kd.mk s')) H' (fun j => if j = i then r else fp j) pv where
  len := by rw [List.length_set, List.length_map]; exact h.len
  rel := fun j u e => by
    have hi : i < env.length := (List.getElem?_eq_some_iff.mp hs).1
    by_cases q : j = i
    · subst q
      rw [List.getElem?_set_self (by rw [List.length_map]; exact hi)] at e
      cases e
      rw [if_pos rfl]
      cases kd with
      | va => exact ⟨v, hv, ow⟩
      | rf => rw [← hp rfl]; exact ⟨hv, ow⟩
    · rw [List.getElem?_set_ne (Ne.symm q)] at e
      rw [if_neg q]
      obtain ⟨t, et, rfl⟩ := dv_get e
      have r := h.rel j t et
      have same : ∀ a ∈ fp j, H' a = H a := fun a m => hH a (fun m2 => q (h.dj j i a m m2)) (h.there j a m)
      cases t with
      | no => exact r
      | va s => obtain ⟨v, e1, q⟩ := r; exact ⟨v, e1, q.mono (Same.refl _) same⟩
      | rf s => obtain ⟨e1, q⟩ := r; exact ⟨e1, q.mono (Same.refl _) same⟩
      | vw p => exact r.1
  nil := fun j hj => by
    have hi : i < env.length := (List.getElem?_eq_some_iff.mp hs).1
    rw [List.length_set, List.length_map] at hj
    show (if j = i then r else fp j) = []
    rw [if_neg (by omega)]
    exact h.nil j hj
  sub := fun a o e => by
    have z := h.sub a o e
    rw [hH a (fun m => by rw [h.out i a m] at e; cases e) ⟨o, z⟩]
    exact z
  out := fun j a m => by
    by_cases q : j = i
    · rw [if_pos q] at m; exact (hr a m).1
    · rw [if_neg q] at m; exact h.out j a m
  nd := fun j => by
    show (if j = i then r else fp j).Nodup
    by_cases q : j = i
    · rw [if_pos q]; exact nd
    · rw [if_neg q]; exact h.nd j
  dj := fun j k a m1 m2 => by
    by_cases q1 : j = i
    · rw [if_pos q1] at m1
      by_cases q2 : k = i
      · rw [q1, q2]
      · rw [if_neg q2] at m2; exact absurd m2 ((hr a m1).2 k q2)
    · rw [if_neg q1] at m1
      by_cases q2 : k = i
      · rw [if_pos q2] at m2; exact absurd m1 ((hr a m2).2 j q1)
      · rw [if_neg q2] at m2; exact h.dj j k a m1 m2
/-- the slot's tree -/
def tree (e : Env) (i : Nat) : Option (Kind × SV) := match e[i]? with
  | some (.va s) => some (.va, s)
  | some (.rf s) => some (.rf, s)
  | _ => none
theorem RS.tree (h : RS K mg G σ env H fp pv) {i : Nat} {kd : Kind} {s : SV} (t : tree env i = some (kd, s)) : env[i]? = some (kd.mk s) ∧ ∃ v, σ[i]? = some (some v) ∧ (kd = .rf → v = pv i) ∧ Ow K mg G H v s (fp i) := by
  unfold VL.tree at t
  cases z : env[i]? with
  | none => rw [z] at t; cases t
  | some u =>
    rw [z] at t
    cases u with
    | no => cases t
    | vw p => cases t
    | va u =>
      cases t
      obtain ⟨v, e1, q⟩ := h.rel i _ z
      exact ⟨rfl, v, e1, (fun q => by cases q), q⟩
    | rf u =>
      cases t
      obtain ⟨e1, q⟩ := h.rel i _ z
      exact ⟨rfl, _, e1, (fun _ => rfl), q⟩
/-- fields as a list -/
def putS (f : Str) (v : SV) : List (Str × SV) → List (Str × SV)
  | [] => [(f, v)]
  | (g, x) :: r => if g = f then (g, v) :: r else (g, x) :: putS f v r
theorem Owf.len : ∀ {vs : List (Str × V)} {fs : List (Str × SV)} {r : List Addr}, Owf K mg G H vs fs r → vs.length = fs.length
  | _, _, _, .nil => rfl
  | _, _, _, .cons _ t => congrArg (· + 1) (Owf.len t)
theorem Owf.put {n : Str} {v : V} {s : SV} {r1 : List Addr} (ow : Ow K mg G H v s r1) : ∀ {vs : List (Str × V)} {fs : List (Str × SV)} {r : List Addr}, Owf K mg G H vs fs r → (r ++ r1).Nodup → ∃ r', Owf K mg G H (putF n v vs) (putS n s fs) r' ∧ (∀ b ∈ r', b ∈ r ∨ b ∈ r1) ∧ r'.Nodup
  | _, _, _, .nil, nd => ⟨r1 ++ [], .cons ow .nil, fun b m => .inr (by simpa using m), by simpa using nd⟩
  | _, _, _, @Owf.cons _ _ _ _ m v0 vs x0 xs r rs h t, nd => by
    by_cases e : m = n
    · refine ⟨r1 ++ rs, ?_, fun b hb => ?_, ?_⟩
      · show Owf K mg G H (if m = n then (m, v) :: vs else (m, v0) :: putF n v vs) (if m = n then (m, s) :: xs else (m, x0) :: putS n s xs) _
        rw [if_pos e, if_pos e]
        exact .cons ow t
      · rcases List.mem_append.mp hb with q | q
        · exact .inr q
        · exact .inl (List.mem_append_right _ q)
      · have n1 := (List.nodup_append.mp nd)
        have n2 := (List.nodup_append.mp n1.1)
        exact List.nodup_append.mpr ⟨n1.2.1, n2.2.1, fun a m1 b m2 q => n1.2.2 b (List.mem_append_right _ m2) a m1 q.symm⟩
    · rw [List.append_assoc] at nd
      have n1 := List.nodup_append.mp nd
      obtain ⟨r', o', s', n'⟩ := Owf.put (n := n) ow t n1.2.1
      refine ⟨r ++ r', ?_, fun b hb => ?_, ?_⟩
      · show Owf K mg G H (if m = n then (m, v) :: vs else (m, v0) :: putF n v vs) (if m = n then (m, s) :: xs else (m, x0) :: putS n s xs) _
        rw [if_neg e, if_neg e]
        exact .cons h o'
      · rcases List.mem_append.mp hb with q | q
        · exact .inl (List.mem_append_left _ q)
        · rcases s' b q with q | q
          · exact .inl (List.mem_append_right _ q)
          · exact .inr q
      · refine List.nodup_append.mpr ⟨n1.1, n', fun a m1 b m2 q => ?_⟩
        rcases s' b m2 with z | z
        · exact n1.2.2 a m1 b (List.mem_append_left _ z) q
        · exact n1.2.2 a m1 b (List.mem_append_right _ z) q
theorem Owf.look_none {n : Str} : ∀ {vs : List (Str × V)} {fs : List (Str × SV)} {r : List Addr}, Owf K mg G H vs fs r → fs.lookup n = none → vs.lookup n = none
  | _, _, _, .nil, _ => rfl
  | _, _, _, @Owf.cons _ _ _ _ m v0 vs x0 xs r rs h t, e => by
    by_cases q : (n == m) = true
    · simp only [List.lookup, q] at e; cases e
    · have q' : (n == m) = false := by simpa using q
      simp only [List.lookup, q'] at e ⊢
      exact Owf.look_none t e
end
section
variable {X : Cx} {W : WX} {a b c e o tg : Expr} {es : List Expr} {pos apos : Pos} {st : Stmt} {sts : List Stmt}
/-- self.n = e -/
def setF (cn n : Str) (s : SV) : SV → Option SV
  | .obj c fs => if c = cn ∧ fs.length < 1000 ∧ (n = "chance" ∨ (fs.lookup n).isNone = true) then some (.obj c (putS n s fs)) else none
  | _ => none
def vSetF (cn : Str) (i : Nat) (n : Str) (f : FO) : ST := fun e => ofR (f e) e fun s => match tree e i with
  | some (kd, t) => match setF cn n s t with
    | some t' => .nx ((e.map dv).set i (kd.mk t'))
    | none => .bad
  | none => .bad
/-- classes whose fields may be read and stored -/
theorem vs_setF {cn : Str} {i : Nat} {n : Str} {f : FO} (hc : FldOk X cn n) (ho : PE X o (tVar i)) (he : VO X W e f) (hsw : swapsWith e (some (.Attribute o n apos)) pos.line X.env = pure false) :
    VS X W (.Assign [.Attribute o n apos] e pos) (vSetF cn i n f) := ps_imp (ps_fld ho he hsw) fun D σ H ⟨G, env, fp, pv, rs, w⟩ => ⟨G, env, fp, pv, rs, Post.ofR rs w fun s w v G1 H1 r e1 ow nd fr => by
  cases z : tree env i with
  | none => rw [z] at w; exact w.elim
  | some kt =>
    obtain ⟨kd, t⟩ := kt
    rw [z] at w
    dsimp only at w
    have rs1 := rs.ext e1
    obtain ⟨hs, u, hu, hp, owt⟩ := rs1.tree z
    refine ⟨u, hu, ?_⟩
    cases z2 : setF cn n s t with
    | none => rw [z2] at w; exact w.elim
    | some t' =>
      rw [z2] at w
      cases t with
      | f _ => cases z2
      | own _ => cases z2
      | otup _ => cases z2
      | obj c fs =>
        have z3 : (if c = cn ∧ fs.length < 1000 ∧ (n = "chance" ∨ (fs.lookup n).isNone = true) then some (SV.obj c (putS n s fs)) else none) = some t' := z2
        by_cases hl : c = cn ∧ fs.length < 1000 ∧ (n = "chance" ∨ (fs.lookup n).isNone = true)
        · rw [if_pos hl] at z3
          cases z3
          generalize hfp : fp i = r0 at owt
          cases owt with
          | @obj x C dx _ vs _ rr m hx of =>
            obtain ⟨k1, k2⟩ := hc _ (by rw [← hl.1]; exact m)
            have hxr : x ∉ r := fun q => by
              have z1 := (fr x q).1
              obtain ⟨o, ho⟩ := rs.there i x (by rw [hfp]; exact List.mem_cons_self)
              rw [ho] at z1; cases z1
            have nd0 := rs1.nd i
            rw [hfp] at nd0
            have nd1 := List.nodup_cons.mp nd0
            have ndr : (rr ++ r).Nodup := List.nodup_append.mpr ⟨nd1.2, nd, fun a m1 b m2 q => by
              subst q
              obtain ⟨o, ho⟩ := rs.there i a (by rw [hfp]; exact List.mem_cons_of_mem _ m1)
              rw [(fr a m2).1] at ho; cases ho⟩
            obtain ⟨r', of', sr', nd'⟩ := Owf.put (n := n) ow of ndr
            have xr' : x ∉ r' := fun q => by
              rcases sr' x q with q | q
              · exact nd1.1 q
              · exact hxr q
            have upx : ∀ a, a ≠ x → (upd H1 x (.ins C dx (putF n v vs))) a = H1 a := fun a h => upd_ne h
            have rs2 := rs1.put (H' := upd H1 x (.ins C dx (putF n v vs))) (s' := .obj c (putS n s fs)) (r := x :: r') hs hu hp (fun b hb _ => upx b fun q => hb (by rw [hfp, q]; exact List.mem_cons_self))
              (.obj m upd_same (of'.mono (Same.refl _) fun a ma => upx a fun q => xr' (by rw [← q]; exact ma))) (List.nodup_cons.mpr ⟨xr', nd'⟩) (fun b hb => by
                rcases List.mem_cons.mp hb with rfl | hb
                · exact ⟨rs1.out i b (by rw [hfp]; exact List.mem_cons_self), fun j hj m2 => hj (rs1.dj j i b m2 (by rw [hfp]; exact List.mem_cons_self))⟩
                · rcases sr' b hb with q | q
                  · exact ⟨rs1.out i b (by rw [hfp]; exact List.mem_cons_of_mem _ q), fun j hj m2 => hj (rs1.dj j i b m2 (by rw [hfp]; exact List.mem_cons_of_mem _ q))⟩
                  · exact ⟨(fr b q).2, fun j _ => rs.notin (fr b q).1 j⟩)
            refine ⟨x, C, dx, vs, rfl, hx, k1, k2, by rw [of.len]; exact hl.2.1, w G1 σ _ _ ⟨e1.g, fun b ob h q => ?_, fun a ob q => ?_, fun j a ma => ?_, fun b hb => ?_, fun a C' dx' vs' h => ?_⟩ rs2⟩
            · rw [upx b fun z => q i (by rw [hfp, z]; exact List.mem_cons_self)]
              exact e1.h b ob h
            · rcases e1.n a ob q with q | q
              · exact .inl q
              · exact .inr (.inl q)
            · by_cases hj : j = i
              · rw [if_pos hj] at ma
                rcases List.mem_cons.mp ma with rfl | ma
                · exact .inr ⟨i, by rw [hfp]; exact List.mem_cons_self⟩
                · rcases sr' a ma with q | q
                  · exact .inr ⟨i, by rw [hfp]; exact List.mem_cons_of_mem _ q⟩
                  · exact .inl (fr a q).1
              · rw [if_neg hj] at ma; exact .inr ⟨j, ma⟩
            · by_cases hbx : b = x
              · rw [hbx, upd_same] at hb; cases hb
              · rw [upx b hbx] at hb; exact none_back e1.h hb
            · by_cases hax : a = x
              · have h1 := e1.h _ _ h
                rw [hax, hx] at h1
                cases h1
                refine ⟨putF n v vs, by rw [hax]; exact upd_same, fun f y hf q => ?_⟩
                rw [lookup_putF]
                by_cases hfn : f = n
                · subst hfn
                  rcases hl.2.2 with z | z
                  · exact absurd z hf
                  · have z' : fs.lookup f = none := by simpa using z
                    rw [of.look_none z'] at q; cases q
                · rw [if_neg hfn]; exact q
              · exact ⟨vs', by rw [upx a hax]; exact e1.h _ _ h, fun _ _ _ q => q⟩
        · rw [if_neg hl] at z3; cases z3⟩
end
end VL

set_option Elab.async false
set_option linter.all false
set_option maxRecDepth 100000
set_option maxHeartbeats 4000000
namespace VL
open PySem PySem.Spec PyProof.Rows L2

/-! ### a def as its callers know it -/
def Def (P : Program) (w : World) (K : PySem.W.Frag) (mg : Str → Option Value) (base : Heap) (k n : Nat) (x : Str) (ps : List Str) (S : Fn) : Prop :=
  ∃ (f : Addr) (fd : FuncData), FnOk P w K mg base (L2.CX P w) k f fd ps (spV K mg n S) ∧ mg x = some (.ref f) ∧ PySem.W.keepIn K (.ref f) = true ∧ Binds K fd ps []
/-- a def of the text where it stands -/
def Sits (K : PySem.W.Frag) (mg : Str → Option Value) (x : Str) (st : Stmt) (ps : List Str) : Prop := ∃ (f : Addr) (fd : FuncData), Fun K x x st f fd ∧ mg x = some (.ref f) ∧ Binds K fd ps []
/-- a class of the text that is made by an __init__ -/
def ClsOk (P : Program) (w : World) (K : PySem.W.Frag) (mg : Str → Option Value) (base : Heap) (k n : Nat) (c : Str) (ps : List Str) (S : Fn) : Prop :=
  ∃ (C f : Addr) (fd : FuncData), Mk K C f ∧ FnOk P w K mg base (L2.CX P w) k f fd ps (spV K mg n S) ∧ mg c = some (.ref C) ∧ Binds K fd ps []
def SitsM (K : PySem.W.Frag) (x qual : Str) (st : Stmt) (ps : List Str) (f : Addr) : Prop := ∃ (fd : FuncData), Fun K x qual st f fd ∧ Binds K fd ps []
/-- an exception's class -/
def ExF (K : PySem.W.Frag) (mg : Str → Option Value) (c : Str) : Prop := ∃ C : Addr, mg c = some (.ref C) ∧ PySem.W.excIn K C [.type "ValueError", .type "Exception", .type "BaseException", .type "object"] "ValueError.__new__" = true ∧ PySem.W.keepIn K (.ref C) = true ∧
  PySem.W.subIn K (.ref C) (.type "BaseException") = some true ∧ PySem.W.typeIn K (.ref C) = some (.type "type")
/-- a tuple of the text's top -/
def GTup (K : PySem.W.Frag) (mg : Str → Option Value) (x : Str) (ns : List Int) : Prop := ∃ a : Addr, mg x = some (.ref a) ∧ ∀ G, SqT K G a (ns.map V.int)
theorem hu65 {k : Nat} {A : Around} (hr : Room k A) : A.units + 65 < cLine := by have := hr.un; omega
theorem def_ok {P : Program} {w : World} {K : PySem.W.Frag} {mg : Str → Option Value} {base : Heap} {x : Str} {st : Stmt} {N ps : List Str} {k n nl : Nat} {body : ST} (F : Sits K mg x st ps) (S : FnScope N ps (defScope st)) (hps : ps.length = n) (hn : N.length - n = nl)
    (hb : ∀ (f : Addr) (cdv : Value) (A : Around) (outer : List PySem.Env) (s : Shared) (H : Hp) (E : XK), Room k (A.deeper (envOfC x (defScope st) s.heap.objs.size f cdv)) →
      VSs (cxOf (L2.CX P w) P w K mg base N x (defScope st) f cdv A outer s H E) (WF E) (defBody st) body) : Def P w K mg base (k + 1) n x ps (mkFn nl body) := by
  obtain ⟨f, fd, F, m, b⟩ := F
  exact ⟨f, fd, fn_ok F S hps hn fun cdv A outer s H E hr => hb f cdv A outer s H E hr, m, F.kp, b⟩
theorem meth_ok {P : Program} {w : World} {K : PySem.W.Frag} {mg : Str → Option Value} {base : Heap} {x qual : Str} {st : Stmt} {N ps : List Str} {k n nl : Nat} {body : ST} {f : Addr} (F : SitsM K x qual st ps f) (S : FnScope N ps (defScope st)) (hps : ps.length = n) (hn : N.length - n = nl)
    (hb : ∀ (cdv : Value) (A : Around) (outer : List PySem.Env) (s : Shared) (H : Hp) (E : XK), Room k (A.deeper (envOfC qual (defScope st) s.heap.objs.size f cdv)) →
      VSs (cxOf (L2.CX P w) P w K mg base N qual (defScope st) f cdv A outer s H E) (WF E) (defBody st) body) : ∃ fd, FnOk P w K mg base (L2.CX P w) (k + 1) f fd ps (spV K mg n (mkFn nl body)) ∧ Binds K fd ps [] := by
  obtain ⟨fd, F, b⟩ := F
  exact ⟨fd, fn_ok F S hps hn fun cdv A outer s H E hr => hb cdv A outer s H E hr, b⟩
section
variable {X : Cx} {W : WX} {a b c e o tg : Expr} {es : List Expr} {pos : Pos}
theorem vo_callD {k j n : Nat} {ps : List Str} {S : Fn} {x : Str} {p : Pos} {fs : Env → Res (List FV)} (D : Def X.prog X.w X.K X.mg X.base k n x ps S) (hr : Room j X.A) (hkj : k ≤ j) (tk : Takes X W) (ha : VAN X W n (e :: es) fs) (hg : Gl X x := by rfl) (hdb : (x == ("__debug__" : Str)) = false := by decide) (he : starEach (e :: es) X.env = (false, eval e X.env) :: starEach es X.env := by rfl) (hpl : (backTo pos (starEach es X.env)).any (·.1) = false := by rfl) :
    VO X W (.Call (.Name x p) (e :: es) [] pos) (vCall S fs) := by
  obtain ⟨f, fd, F, m, kp, b⟩ := D
  exact vo_call F (hr.mono hkj) m kp b tk ha hg hdb he hpl
theorem vo_makeD {k j n : Nat} {ps : List Str} {S : Fn} {x : Str} {p : Pos} {fs : Env → Res (List FV)} (D : ClsOk X.prog X.w X.K X.mg X.base k (n + 1) x ps S) (hr : Room j X.A) (hkj : k + 1 ≤ j) (tk : Takes X W) (ha : VAN X W n (e :: es) fs) (hg : Gl X x := by rfl) (hdb : (x == ("__debug__" : Str)) = false := by decide) (he : starEach (e :: es) X.env = (false, eval e X.env) :: starEach es X.env := by rfl) (hpl : (backTo pos (starEach es X.env)).any (·.1) = false := by rfl) :
    VO X W (.Call (.Name x p) (e :: es) [] pos) (vMake x S fs) := by
  obtain ⟨C, f, fd, M, F, m, b⟩ := D
  exact vo_make M F (hr.mono hkj) m b tk ha hg hdb he hpl
theorem vs_raiseE {x m : Str} {j : Nat} {p p2 p3 : Pos} (E : ExF X.K X.mg x) (hc : X.calm = true) (tk : Takes X W) (hg : Gl X x := by rfl) (hdb : (x == ("__debug__" : Str)) = false := by decide) : VS X W (.Raise (some (.Call (.Name x p) [.Constant (.str m) j p2] [] pos)) none p3) (vRaise x) := by
  obtain ⟨C, g, q, k, s, t⟩ := E
  exact vs_raise hc tk PySem.F.excBase_ValueError q g k (raises_own s t) hg hdb
/-- a tuple of the top -/
theorem dqs_ints {K : PySem.W.Frag} {G : Hp} (ns : List Int) : Dqs K G (ns.map V.int) (ns.map PyData.int) := Dqs.of_ints ns
theorem vp_gtup {x : Str} {ns : List Int} (T : GTup X.K X.mg x ns) (hg : Gl X x := by rfl) (hdb : (x == ("__debug__" : Str)) = false := by decide) : VP X W (.Name x pos) (vC (.tuple (ns.map .int))) := by
  obtain ⟨a, m, q⟩ := T
  exact vp_c (v := .ref a) (pe_glob hg m rfl hdb) fun G => .tup (q G) (dqs_ints ns)

/-! ### isinstance with a built-in class -/
def tyN : PyData → String
  | .none => "NoneType"
  | .bool _ => "bool"
  | .int _ => "int"
  | .str _ => "str"
  | .list _ => "list"
  | .tuple _ => "tuple"
  | .dict _ => "dict"
inductive Ty4 where
  | int | bool | list | tuple
def Ty4.n : Ty4 → String
  | .int => "int" | .bool => "bool" | .list => "list" | .tuple => "tuple"
def isI : Ty4 → PyData → Bool
  | .int, .int _ => true
  | .int, .bool _ => true
  | .bool, .bool _ => true
  | .list, .list _ => true
  | .tuple, .tuple _ => true
  | _, _ => false
theorem kit_isI : ∀ (T : Ty4) (p : PyData), (∀ l, p ≠ .dict l) → kitB (tyN p) T.n = some (isI T p) := by
  intro T p h
  cases T <;> cases p <;> first
    | exact absurd rfl (h _)
    | (show kitB _ _ = some _; simp only [tyN, Ty4.n, isI]; decide +kernel)
theorem Dr.ty {K : PySem.W.Frag} {G H : Hp} {v : V} {p : PyData} (s : Same G H) (h : Dr K G H v p) : TyX K H v (.type (tyN p)) ∧ ∀ l, p ≠ .dict l := by
  cases h with
  | fz h =>
    cases h with
    | non => exact ⟨.base .non, fun l q => by cases q⟩
    | bl b => exact ⟨.base (.bl b), fun l q => by cases q⟩
    | int b => exact ⟨.base (.int b), fun l q => by cases q⟩
    | str b => exact ⟨.base (.str b), fun l q => by cases q⟩
    | lst h t => exact ⟨.base (.lst (s _ _ h)), fun l q => by cases q⟩
    | tup h t =>
      refine ⟨?_, fun l q => by cases q⟩
      rcases h with (h | ⟨o, h⟩) | ⟨o, its, n, hk, hc, _⟩
      · exact .base (.tup (s _ _ h))
      · exact .fTuple (s _ _ h)
      · exact .kTuple hk hc
  | top h t => exact ⟨.base (.lst h), fun l q => by cases q⟩
theorem vp_isi (T : Ty4) {f : FD} {x : Str} {p p2 : Pos} (hx : bootBuiltins x = some (.type T.n)) (hmx : X.mg x = none) (hm : X.mg "isinstance" = none) (ha : VD X W a f) (hgx : Gl X x) (hnx : x ≠ "__name__") (hdx : (x == ("__debug__" : Str)) = false) (hg : Gl X "isinstance" := by rfl)
    (he : starEach [a, .Name x p2] X.env = (false, eval a X.env) :: starEach [.Name x p2] X.env := by rfl) (he2 : starEach [.Name x p2] X.env = (false, eval (.Name x p2) X.env) :: starEach [] X.env := by rfl) (hpl : (backTo pos (starEach [.Name x p2] X.env)).any (·.1) = false := by rfl) : VP X W (.Call (.Name "isinstance" p) [a, .Name x p2] [] pos) (v1 (fun y => iB (isI T y)) f) :=
  pe_imp (pe_callB call_isi hg hm boot_isinstance (pa_cons ha (pa_cons (pe_bltn (v := .ty T.n) hgx hmx hx rfl hnx hdx) pa_nil he2) he) (by decide) (by decide) he hpl) fun σ H Q ⟨G, env, fp, pv, rs, w⟩ => ⟨G, env, fp, pv, rs, PostR.seq w fun y w v G1 H1 e1 q1 => by
    obtain ⟨t, nd⟩ := q1.ty e1.s
    exact ⟨v, .ty T.n, _, _, _, rfl, .ty _, t, kit_ty (kit_isI T y nd), jP.bool e1.s (jP.ext e1 w)⟩⟩
/-- list(range(a, b)) -/
noncomputable def lrg2 : PyData → PyData → Res SV
  | .int i, .int j => cIf (0 ≤ i ∧ i ≤ 16777216 ∧ 0 ≤ j ∧ j ≤ 16777216) (.ok (SV.dl (rngP i (j - i).toNat))) .bad
  | _, _ => .bad
theorem dqs_rg {K : PySem.W.Frag} {G : Hp} (i j : Int) : Dqs K G (rgV i j) (rngP i (j - i).toNat) := by
  unfold rgV rngP
  generalize (j - i).toNat = n
  have : ∀ l : List Nat, Dqs K G (l.map fun (k : Nat) => V.int (i + (k : Nat))) (l.map fun (k : Nat) => PyData.int (i + (k : Nat))) := fun l => by
    induction l with
    | nil => exact .nil
    | cons x l ih => exact .cons (.int _) ih
  exact this _
theorem vo_lrg2 {f g : FD} {p p2 pos2 : Pos} (hc : X.calm = true) (hl : X.mg "list" = none) (hm : X.mg "range" = none) (ha : VD X W a f) (hb : VD X W b g) (hg : Gl X "list" := by rfl) (hg2 : Gl X "range" := by rfl)
    (na : starEach [a, b] X.env = (false, eval a X.env) :: starEach [b] X.env := by rfl) (nb : starEach [b] X.env = (false, eval b X.env) :: starEach [] X.env := by rfl) (hp : (backTo pos2 (starEach [b] X.env)).any (·.1) = false := by rfl)
    (ne : starEach [.Call (.Name "range" p2) [a, b] [] pos2] X.env = (false, eval (.Call (.Name "range" p2) [a, b] [] pos2) X.env) :: starEach [] X.env := by rfl) :
    VO X W (.Call (.Name "list" p) [.Call (.Name "range" p2) [a, b] [] pos2] [] pos) (v2 lrg2 f g) :=
  pe_imp (pe_listRg hc hg hl (prg_2 hg2 hm ha hb na nb hp) ne) fun σ H Q ⟨G, env, fp, pv, rs, w⟩ => ⟨G, env, fp, pv, rs, PostR.seq w fun x w v G1 H1 e1 q1 =>
    ⟨G1, env, fp, pv, rs.ext e1, PostR.imp (PostR.seq (k := fun y => PostR X.mg W σ H (jO X.K X.mg Q G H) (lrg2 x y)) w fun y w => w) e1.h fun y w u G2 H2 e2 q2 => by
      unfold lrg2 cIf at w
      split at w
      · split at w
        · rename_i h
          exact ⟨_, _, q1.int, q2.int, RgOk.of_le h.1 h.2.2.2 h.2.1 h.2.2.1, new_dl e2.s (dqs_rg _ _) (jO.ext (e1.trans e2) w)⟩
        · exact w.elim
      · exact w.elim⟩⟩
/-- the wishes of a body -/
theorem tk_body {P : Program} {w : World} {K : PySem.W.Frag} {mg : Str → Option Value} {base : Heap} {N : List Str} {qual : Str} {scope : Scope} {f : Addr} {cdv : Value} {A : Around} {outer : List PySem.Env} {s : Shared} {H : Hp} {E : XK} :
    Takes (cxOf (L2.CX P w) P w K mg base N qual scope f cdv A outer s H E) (WF E) := takes_of rfl rfl rfl rfl
theorem po_body {P : Program} {w : World} {K : PySem.W.Frag} {mg : Str → Option Value} {base : Heap} {N : List Str} {qual : Str} {scope : Scope} {f : Addr} {cdv : Value} {A : Around} {outer : List PySem.Env} {s : Shared} {H : Hp} {E : XK} :
    PassesOwn (model (cxOf (L2.CX P w) P w K mg base N qual scope f cdv A outer s H E).prog (cxOf (L2.CX P w) P w K mg base N qual scope f cdv A outer s H E).w) (cxOf (L2.CX P w) P w K mg base N qual scope f cdv A outer s H E).A (cxOf (L2.CX P w) P w K mg base N qual scope f cdv A outer s H E).env (cxOf (L2.CX P w) P w K mg base N qual scope f cdv A outer s H E).xe := passes_of rfl
end

/-! ### the law's own promise -/
def spLaw (K : PySem.W.Frag) : Sp := fun vs H Q _ => ∃ (a : Addr) (ns : List Int), vs = [.ref a] ∧ SqL K H a (ns.map V.int) ∧ ns.length ≤ 63 ∧ ∀ H', Q (.bl true) H'
theorem law_ok {P : Program} {w : World} {K : PySem.W.Frag} {mg : Str → Option Value} {base : Heap} {k : Nat} {f : Addr} {fd : FuncData} {S : Fn} (F : FnOk P w K mg base (L2.CX P w) k f fd ["script"] (spV K mg 1 S))
    (h : ∀ ns : List Int, ns.length ≤ 63 → ∃ a, S [.va (.f (.sc ns))] = .ret (.f (.d (.bool true))) a) : FnOk P w K mg base (L2.CX P w) k f fd ["script"] (spLaw K) :=
  F.imp fun vs H Q E ⟨a, ns, e, hs, hl, q⟩ => by
    subst e
    obtain ⟨as, hS⟩ := h ns hl
    have rs : RS K mg H [some (.ref a)] [.va (.f (.sc ns))] H (fun _ => []) (fun _ => .non) := RS.args (vs := [.ref a]) (xs := [.sc ns]) (Same.refl H) (.cons (.sc hs) .nil)
    refine ⟨rfl, H, [.va (.f (.sc ns))], fun _ => [], fun _ => .non, rs, ?_⟩
    rw [hS]
    intro v G' H' fp' r st rs' ow nd fr
    have e : v = .bl true := by
      cases ow with
      | f q => cases q with | d q => cases q; rfl
    subst e
    exact q H'
end VL

set_option Elab.async false
set_option linter.all false
set_option maxRecDepth 100000
set_option maxHeartbeats 4000000
namespace VL
open PySem PySem.Spec PyProof.Rows L2

/-! ### places within trees -/
inductive Pst where
  | fld (cn n : Str)
  | ix (i : Int)
def stepS : SV → Pst → Option SV
  | .obj c fs, .fld cn n => if c = cn then fs.lookup n else none
  | .own xs, .ix i => atI xs i
  | .otup xs, .ix i => atI xs i
  | _, _ => none
def subS : SV → List Pst → Option SV
  | s, [] => some s
  | s, p :: ps => (stepS s p).bind fun t => subS t ps
def setIx (xs : List SV) (i : Int) (t : SV) : List SV := match ixN xs.length i with
  | some j => xs.set j t
  | none => xs
def setS1 : SV → Pst → SV → SV
  | .obj c fs, .fld _ n, t => .obj c (putS n t fs)
  | .own xs, .ix i, t => .own (setIx xs i t)
  | .otup xs, .ix i, t => .otup (setIx xs i t)
  | s, _, _ => s
def updS : SV → List Pst → SV → SV
  | _, [], t => t
  | s, p :: ps, t => match stepS s p with
    | some u => setS1 s p (updS u ps t)
    | none => s
def stepV (H : Hp) : V → Pst → Option V
  | .ref a, .fld _ n => match H a with
    | some (.ins _ _ vs) => vs.lookup n
    | _ => none
  | .ref a, .ix i => match H a with
    | some (.lst vs) => atI vs i
    | some (.tup vs) => atI vs i
    | _ => none
  | _, _ => none
def reach (H : Hp) : V → List Pst → Option V
  | v, [] => some v
  | v, p :: ps => (stepV H v p).bind fun w => reach H w ps
theorem subS_snoc : ∀ (s : SV) (ps : List Pst) (p : Pst), subS s (ps ++ [p]) = (subS s ps).bind fun t => stepS t p
  | s, [], p => by
    show (stepS s p).bind (fun t => some t) = stepS s p
    cases stepS s p <;> rfl
  | s, q :: ps, p => by
    show (stepS s q).bind (fun t => subS t (ps ++ [p])) = ((stepS s q).bind fun t => subS t ps).bind _
    cases stepS s q with
    | none => rfl
    | some t => exact subS_snoc t ps p
theorem reach_snoc (H : Hp) : ∀ (v : V) (ps : List Pst) (p : Pst), reach H v (ps ++ [p]) = (reach H v ps).bind fun t => stepV H t p
  | v, [], p => by
    show (stepV H v p).bind (fun t => some t) = stepV H v p
    cases stepV H v p <;> rfl
  | v, q :: ps, p => by
    show (stepV H v q).bind (fun t => reach H t (ps ++ [p])) = ((stepV H v q).bind fun t => reach H t ps).bind _
    cases stepV H v q with
    | none => rfl
    | some t => exact reach_snoc H t ps p
theorem stepV_same {H H' : Hp} (e : Same H H') {v w : V} {p : Pst} (h : stepV H v p = some w) : stepV H' v p = some w := by
  cases v with
  | ref a =>
    cases p with
    | fld c n =>
      have h' : (match H a with | some (.ins _ _ vs) => vs.lookup n | _ => none) = some w := h
      show (match H' a with | some (.ins _ _ vs) => vs.lookup n | _ => none) = some w
      cases z : H a with
      | none => rw [z] at h'; cases h'
      | some o => rw [e _ _ z]; rw [z] at h'; exact h'
    | ix i =>
      have h' : (match H a with | some (.lst vs) => atI vs i | some (.tup vs) => atI vs i | _ => none) = some w := h
      show (match H' a with | some (.lst vs) => atI vs i | some (.tup vs) => atI vs i | _ => none) = some w
      cases z : H a with
      | none => rw [z] at h'; cases h'
      | some o => rw [e _ _ z]; rw [z] at h'; exact h'
  | _ => cases p <;> cases h
theorem reach_same {H H' : Hp} (e : Same H H') : ∀ {ps : List Pst} {v u : V}, reach H v ps = some u → reach H' v ps = some u
  | [], _, _, h => h
  | p :: ps, v, u, h => by
    have h' : (stepV H v p).bind (fun w => reach H w ps) = some u := h
    show (stepV H' v p).bind (fun w => reach H' w ps) = some u
    cases z : stepV H v p with
    | none => rw [z] at h'; cases h'
    | some w =>
      rw [z] at h'
      rw [stepV_same e z]
      exact reach_same e h'
theorem setIx_eq {xs : List SV} {i : Int} {j : Nat} {t : SV} (h : ixN xs.length i = some j) : setIx xs i t = xs.set j t := by
  unfold setIx
  rw [h]
theorem setIx_length (xs : List SV) (i : Int) (t : SV) : (setIx xs i t).length = xs.length := by
  unfold setIx
  cases ixN xs.length i with
  | none => rfl
  | some j => exact List.length_set
section
variable {K : PySem.W.Frag} {mg : Str → Option Value} {G G' H H' : Hp}
theorem Ows.len : ∀ {vs : List V} {xs : List SV} {r : List Addr}, Ows K mg G H vs xs r → vs.length = xs.length
  | _, _, _, .nil => rfl
  | _, _, _, .cons _ t => congrArg (· + 1) (Ows.len t)
/-- seen: one element -/
theorem Ows.see : ∀ {vs : List V} {xs : List SV} {r : List Addr} {j : Nat} {s : SV}, Ows K mg G H vs xs r → xs[j]? = some s → ∃ w r1, vs[j]? = some w ∧ Ow K mg G H w s r1 ∧ ∀ a ∈ r1, a ∈ r
  | _, _, _, _, _, .nil, h => by simp at h
  | _, _, _, 0, s, @Ows.cons _ _ _ _ v vs x xs r rs h t, e => by
    have e' : x = s := by simpa using e
    subst e'
    exact ⟨v, r, rfl, h, fun a m => List.mem_append_left _ m⟩
  | _, _, _, j + 1, s, @Ows.cons _ _ _ _ v vs x xs r rs h t, e => by
    obtain ⟨w, r1, h1, h2, h3⟩ := Ows.see (j := j) t (by simpa using e)
    exact ⟨w, r1, by simpa using h1, h2, fun a m => List.mem_append_right _ (h3 a m)⟩
theorem Owf.see {n : Str} : ∀ {vs : List (Str × V)} {fs : List (Str × SV)} {r : List Addr} {s : SV}, Owf K mg G H vs fs r → fs.lookup n = some s → ∃ w r1, vs.lookup n = some w ∧ Ow K mg G H w s r1 ∧ ∀ a ∈ r1, a ∈ r
  | _, _, _, _, .nil, h => by cases h
  | _, _, _, s, @Owf.cons _ _ _ _ m v vs x xs r rs h t, e => by
    by_cases q : (n == m) = true
    · simp only [List.lookup, q] at e ⊢
      cases e
      exact ⟨v, r, rfl, h, fun a m => List.mem_append_left _ m⟩
    · have q' : (n == m) = false := by simpa using q
      simp only [List.lookup, q'] at e ⊢
      obtain ⟨w, r1, h1, h2, h3⟩ := Owf.see (n := n) t e
      exact ⟨w, r1, h1, h2, fun a m => List.mem_append_right _ (h3 a m)⟩
theorem atI_ex {α : Type} {xs : List α} {i : Int} {t : α} (h : atI xs i = some t) : ∃ j, ixN xs.length i = some j ∧ xs[j]? = some t := by
  unfold atI at h
  cases z : ixN xs.length i with
  | none => rw [z] at h; cases h
  | some j => rw [z] at h; exact ⟨j, rfl, h⟩
theorem atI_of {α : Type} {xs : List α} {i : Int} {t : α} {j : Nat} (h : ixN xs.length i = some j) (e : xs[j]? = some t) : atI xs i = some t := by
  unfold atI
  rw [h]
  exact e
/-- one step down -/
theorem Ow.see1 {v : V} {s t : SV} {r : List Addr} {p : Pst} (h : Ow K mg G H v s r) (e : stepS s p = some t) : ∃ w r1, stepV H v p = some w ∧ Ow K mg G H w t r1 ∧ ∀ a ∈ r1, a ∈ r := by
  cases h with
  | f h => cases p <;> cases e
  | @own a vs xs r hH o =>
    cases p with
    | fld c n => cases e
    | ix i =>
      obtain ⟨j, h1, h2⟩ := atI_ex (show atI xs i = some t from e)
      obtain ⟨w, r1, k1, k2, k3⟩ := o.see h2
      refine ⟨w, r1, ?_, k2, fun a m => List.mem_cons_of_mem _ (k3 a m)⟩
      show (match H a with | some (.lst vs) => atI vs i | some (.tup vs) => atI vs i | _ => none) = some w
      rw [hH]
      exact atI_of (by rw [o.len]; exact h1) k1
  | @otup a vs xs r hH o =>
    cases p with
    | fld c n => cases e
    | ix i =>
      obtain ⟨j, h1, h2⟩ := atI_ex (show atI xs i = some t from e)
      obtain ⟨w, r1, k1, k2, k3⟩ := o.see h2
      refine ⟨w, r1, ?_, k2, fun a m => List.mem_cons_of_mem _ (k3 a m)⟩
      show (match H a with | some (.lst vs) => atI vs i | some (.tup vs) => atI vs i | _ => none) = some w
      rw [hH]
      exact atI_of (by rw [o.len]; exact h1) k1
  | @obj a C dx c vs fs r m hH o =>
    cases p with
    | ix i => cases e
    | fld cn n =>
      have e' : (if c = cn then fs.lookup n else none) = some t := e
      by_cases ec : c = cn
      · rw [if_pos ec] at e'
        obtain ⟨w, r1, k1, k2, k3⟩ := o.see e'
        refine ⟨w, r1, ?_, k2, fun a m => List.mem_cons_of_mem _ (k3 a m)⟩
        show (match H a with | some (.ins _ _ vs) => vs.lookup n | _ => none) = some w
        rw [hH]
        exact k1
      · rw [if_neg ec] at e'; cases e'
theorem Ow.see : ∀ {ps : List Pst} {v : V} {s t : SV} {r : List Addr}, Ow K mg G H v s r → subS s ps = some t → ∃ u r1, reach H v ps = some u ∧ Ow K mg G H u t r1 ∧ ∀ a ∈ r1, a ∈ r
  | [], v, s, t, r, h, e => by
    have e' : s = t := Option.some.inj e
    subst e'
    exact ⟨v, r, rfl, h, fun a m => m⟩
  | p :: ps, v, s, t, r, h, e => by
    have e' : (stepS s p).bind (fun t => subS t ps) = some t := e
    cases z : stepS s p with
    | none => rw [z] at e'; cases e'
    | some s1 =>
      rw [z] at e'
      obtain ⟨w, r1, h1, h2, h3⟩ := h.see1 z
      obtain ⟨u, r2, k1, k2, k3⟩ := Ow.see (ps := ps) h2 e'
      refine ⟨u, r2, ?_, k2, fun a m => h3 a (k3 a m)⟩
      show (stepV H v p).bind (fun w => reach H w ps) = some u
      rw [h1]
      exact k1

/-! ### one element exchanged -/
/-- what must hold of the exchanged part -/
structure Exch (K : PySem.W.Frag) (mg : Str → Option Value) (G H G' H' : Hp) (r r1 : List Addr) (w' : V) (s' : SV) (r1' : List Addr) : Prop where
  g : Same G G'
  h : ∀ a ∈ r, a ∉ r1 → H' a = H a
  ow : Ow K mg G' H' w' s' r1'
  nd : r1'.Nodup
  sub : ∀ a ∈ r1', a ∈ r1 ∨ a ∉ r
theorem Ows.exch : ∀ {vs : List V} {xs : List SV} {r : List Addr} {j : Nat} {s : SV}, Ows K mg G H vs xs r → r.Nodup → xs[j]? = some s → ∃ w r1, vs[j]? = some w ∧ Ow K mg G H w s r1 ∧ r1.Nodup ∧ (∀ a ∈ r1, a ∈ r) ∧
    ∀ {w' G' H' s' r1'}, Exch K mg G H G' H' r r1 w' s' r1' → ∃ r', Ows K mg G' H' (vs.set j w') (xs.set j s') r' ∧ r'.Nodup ∧ ∀ a ∈ r', a ∈ r1' ∨ (a ∈ r ∧ a ∉ r1)
  | _, _, _, _, _, .nil, _, h => by simp at h
  | _, _, _, 0, s, @Ows.cons _ _ _ _ v vs x xs r rs h t, nd, e => by
    have e' : x = s := by simpa using e
    subst e'
    have n1 := List.nodup_append.mp nd
    refine ⟨v, r, rfl, h, n1.1, fun a m => List.mem_append_left _ m, fun {w' G' H' s' r1'} X => ⟨r1' ++ rs, ?_, ?_, fun a m => ?_⟩⟩
    · exact .cons X.ow (t.mono X.g fun a m => X.h a (List.mem_append_right _ m) fun m2 => n1.2.2 a m2 a m rfl)
    · refine List.nodup_append.mpr ⟨X.nd, n1.2.1, fun a m1 b m2 q => ?_⟩
      subst q
      rcases X.sub a m1 with z | z
      · exact n1.2.2 a z a m2 rfl
      · exact z (List.mem_append_right _ m2)
    · rcases List.mem_append.mp m with q | q
      · exact .inl q
      · exact .inr ⟨List.mem_append_right _ q, fun m2 => n1.2.2 a m2 a q rfl⟩
  | _, _, _, j + 1, s, @Ows.cons _ _ _ _ v vs x xs r rs h t, nd, e => by
    have n1 := List.nodup_append.mp nd
    obtain ⟨w, r1, k1, k2, k3, k4, k5⟩ := Ows.exch (j := j) t n1.2.1 (by simpa using e)
    refine ⟨w, r1, by simpa using k1, k2, k3, fun a m => List.mem_append_right _ (k4 a m), fun {w' G' H' s' r1'} X => ?_⟩
    obtain ⟨r', o', nd', s'⟩ := k5 (w' := w') ⟨X.g, fun a m => X.h a (List.mem_append_right _ m), X.ow, X.nd, fun a m => (X.sub a m).imp id fun q m2 => q (List.mem_append_right _ m2)⟩
    refine ⟨r ++ r', ?_, ?_, fun a m => ?_⟩
    · exact .cons (h.mono X.g fun a m => X.h a (List.mem_append_left _ m) fun m2 => n1.2.2 a m a (k4 a m2) rfl) o'
    · refine List.nodup_append.mpr ⟨n1.1, nd', fun a m1 b m2 q => ?_⟩
      subst q
      rcases s' a m2 with z | z
      · rcases X.sub a z with q | q
        · exact n1.2.2 a m1 a (k4 a q) rfl
        · exact q (List.mem_append_left _ m1)
      · exact n1.2.2 a m1 a z.1 rfl
    · rcases List.mem_append.mp m with q | q
      · exact .inr ⟨List.mem_append_left _ q, fun m2 => n1.2.2 a q a (k4 a m2) rfl⟩
      · rcases s' a q with z | z
        · exact .inl z
        · exact .inr ⟨List.mem_append_right _ z.1, z.2⟩
theorem Owf.exch {n : Str} : ∀ {vs : List (Str × V)} {fs : List (Str × SV)} {r : List Addr} {s : SV}, Owf K mg G H vs fs r → r.Nodup → fs.lookup n = some s → ∃ w r1, vs.lookup n = some w ∧ Ow K mg G H w s r1 ∧ r1.Nodup ∧ (∀ a ∈ r1, a ∈ r) ∧
    ∀ {G' H' s' r1'}, Exch K mg G H G' H' r r1 w s' r1' → ∃ r', Owf K mg G' H' vs (putS n s' fs) r' ∧ r'.Nodup ∧ ∀ a ∈ r', a ∈ r1' ∨ (a ∈ r ∧ a ∉ r1)
  | _, _, _, _, .nil, _, h => by cases h
  | _, _, _, s, @Owf.cons _ _ _ _ m v vs x xs r rs h t, nd, e => by
    have n1 := List.nodup_append.mp nd
    by_cases q : (n == m) = true
    · have qe : m = n := (beq_iff_eq.mp q).symm
      simp only [List.lookup, q] at e ⊢
      cases e
      refine ⟨v, r, rfl, h, n1.1, fun a m => List.mem_append_left _ m, fun {G' H' s' r1'} X => ⟨r1' ++ rs, ?_, ?_, fun a m => ?_⟩⟩
      · show Owf K mg G' H' ((m, v) :: vs) (if m = n then (m, s') :: xs else (m, _) :: putS n s' xs) _
        rw [if_pos qe]
        exact .cons X.ow (t.mono X.g fun a m => X.h a (List.mem_append_right _ m) fun m2 => n1.2.2 a m2 a m rfl)
      · refine List.nodup_append.mpr ⟨X.nd, n1.2.1, fun a m1 b m2 q => ?_⟩
        subst q
        rcases X.sub a m1 with z | z
        · exact n1.2.2 a z a m2 rfl
        · exact z (List.mem_append_right _ m2)
      · rcases List.mem_append.mp m with q | q
        · exact .inl q
        · exact .inr ⟨List.mem_append_right _ q, fun m2 => n1.2.2 a m2 a q rfl⟩
    · have q' : (n == m) = false := by simpa using q
      have qn : ¬ m = n := fun z => by rw [z] at q'; simp at q'
      simp only [List.lookup, q'] at e ⊢
      obtain ⟨w, r1, k1, k2, k3, k4, k5⟩ := Owf.exch (n := n) t n1.2.1 e
      refine ⟨w, r1, k1, k2, k3, fun a m => List.mem_append_right _ (k4 a m), fun {G' H' s' r1'} X => ?_⟩
      obtain ⟨r', o', nd', s'⟩ := k5 ⟨X.g, fun a m => X.h a (List.mem_append_right _ m), X.ow, X.nd, fun a m => (X.sub a m).imp id fun q m2 => q (List.mem_append_right _ m2)⟩
      refine ⟨r ++ r', ?_, ?_, fun a m => ?_⟩
      · show Owf K mg G' H' ((m, v) :: vs) (if m = n then _ else (m, x) :: putS n _ xs) _
        rw [if_neg qn]
        exact .cons (h.mono X.g fun a m => X.h a (List.mem_append_left _ m) fun m2 => n1.2.2 a m a (k4 a m2) rfl) o'
      · refine List.nodup_append.mpr ⟨n1.1, nd', fun a m1 b m2 q => ?_⟩
        subst q
        rcases s' a m2 with z | z
        · rcases X.sub a z with q | q
          · exact n1.2.2 a m1 a (k4 a q) rfl
          · exact q (List.mem_append_left _ m1)
        · exact n1.2.2 a m1 a z.1 rfl
      · rcases List.mem_append.mp m with q | q
        · exact .inr ⟨List.mem_append_left _ q, fun m2 => n1.2.2 a q a (k4 a m2) rfl⟩
        · rcases s' a q with z | z
          · exact .inl z
          · exact .inr ⟨List.mem_append_right _ z.1, z.2⟩
theorem set_self {α : Type} : ∀ {l : List α} {j : Nat} {a : α}, l[j]? = some a → l.set j a = l
  | [], _, _, h => by simp at h
  | x :: l, 0, a, h => by simp at h; subst h; rfl
  | x :: l, j + 1, a, h => by
    show x :: l.set j a = x :: l
    rw [set_self (by simpa using h)]
/-- a part of a tree exchanged, its root as it was -/
theorem Ow.exch : ∀ {ps : List Pst} {v : V} {s t : SV} {r : List Addr}, Ow K mg G H v s r → r.Nodup → subS s ps = some t → ∃ u r1, reach H v ps = some u ∧ Ow K mg G H u t r1 ∧ r1.Nodup ∧ (∀ a ∈ r1, a ∈ r) ∧
    ∀ {G' H' t' r1'}, Exch K mg G H G' H' r r1 u t' r1' → ∃ r', Ow K mg G' H' v (updS s ps t') r' ∧ r'.Nodup ∧ ∀ a ∈ r', a ∈ r1' ∨ (a ∈ r ∧ a ∉ r1)
  | [], v, s, t, r, h, nd, e => by
    have e' : s = t := Option.some.inj e
    subst e'
    exact ⟨v, r, rfl, h, nd, fun a m => m, fun {G' H' t' r1'} X => ⟨r1', X.ow, X.nd, fun a m => .inl m⟩⟩
  | p :: ps, v, s, t, r, h, nd, e => by
    have e' : (stepS s p).bind (fun t => subS t ps) = some t := e
    cases z : stepS s p with
    | none => rw [z] at e'; cases e'
    | some s1 =>
      rw [z] at e'
      have hu : ∀ t', updS s (p :: ps) t' = setS1 s p (updS s1 ps t') := fun t' => by
        show (match stepS s p with | some u => setS1 s p (updS u ps t') | none => s) = _
        rw [z]
      cases h with
      | f h => cases p <;> cases z
      | @own a vs xs r hH o =>
        cases p with
        | fld c n => cases z
        | ix i =>
          have n1 := List.nodup_cons.mp nd
          obtain ⟨j, h1, h2⟩ := atI_ex (show atI xs i = some s1 from z)
          obtain ⟨w, r1, k1, k2, k3, k4, k5⟩ := o.exch n1.2 h2
          obtain ⟨u, r2, l1, l2, l3, l4, l5⟩ := Ow.exch (ps := ps) k2 k3 e'
          refine ⟨u, r2, ?_, l2, l3, fun b m => List.mem_cons_of_mem _ (k4 b (l4 b m)), fun {G' H' t' r2'} X => ?_⟩
          · show (match H a with | some (.lst vs) => atI vs i | some (.tup vs) => atI vs i | _ => none).bind _ = some u
            rw [hH]
            show (atI vs i).bind _ = some u
            rw [atI_of (by rw [o.len]; exact h1) k1]
            exact l1
          · obtain ⟨r1', q1, q2, q3⟩ := l5 ⟨X.g, fun b m n => X.h b (List.mem_cons_of_mem _ (k4 b m)) n, X.ow, X.nd, fun b m => (X.sub b m).imp id fun q m2 => q (List.mem_cons_of_mem _ (k4 b m2))⟩
            obtain ⟨r', p1, p2, p3⟩ := k5 (w' := w) ⟨X.g, fun b m n => X.h b (List.mem_cons_of_mem _ m) (fun m2 => n (l4 b m2)), q1, q2, fun b m => by
              rcases q3 b m with q | q
              · rcases X.sub b q with y | y
                · exact .inl (l4 b y)
                · exact .inr fun m2 => y (List.mem_cons_of_mem _ m2)
              · exact .inl q.1⟩
            have sub' : ∀ b ∈ r', b ∈ r2' ∨ (b ∈ r ∧ b ∉ r2) := fun b m => by
              rcases p3 b m with q | q
              · rcases q3 b q with y | y
                · exact .inl y
                · exact .inr ⟨k4 b y.1, y.2⟩
              · exact .inr ⟨q.1, fun m2 => q.2 (l4 b m2)⟩
            have ar' : a ∉ r' := fun m => by
              rcases sub' a m with q | q
              · rcases X.sub a q with y | y
                · exact n1.1 (k4 a (l4 a y))
                · exact y List.mem_cons_self
              · exact n1.1 q.1
            refine ⟨a :: r', ?_, List.nodup_cons.mpr ⟨ar', p2⟩, fun b m => ?_⟩
            · rw [hu, show setS1 (.own xs) (.ix i) (updS s1 ps t') = .own (setIx xs i (updS s1 ps t')) from rfl, setIx_eq h1]
              refine .own ?_ p1
              rw [set_self k1, X.h a List.mem_cons_self fun m => n1.1 (k4 a (l4 a m))]
              exact hH
            · rcases List.mem_cons.mp m with rfl | m
              · exact .inr ⟨List.mem_cons_self, fun m => n1.1 (k4 _ (l4 _ m))⟩
              · exact (sub' b m).imp id fun q => ⟨List.mem_cons_of_mem _ q.1, q.2⟩
      | @otup a vs xs r hH o =>
        cases p with
        | fld c n => cases z
        | ix i =>
          have n1 := List.nodup_cons.mp nd
          obtain ⟨j, h1, h2⟩ := atI_ex (show atI xs i = some s1 from z)
          obtain ⟨w, r1, k1, k2, k3, k4, k5⟩ := o.exch n1.2 h2
          obtain ⟨u, r2, l1, l2, l3, l4, l5⟩ := Ow.exch (ps := ps) k2 k3 e'
          refine ⟨u, r2, ?_, l2, l3, fun b m => List.mem_cons_of_mem _ (k4 b (l4 b m)), fun {G' H' t' r2'} X => ?_⟩
          · show (match H a with | some (.lst vs) => atI vs i | some (.tup vs) => atI vs i | _ => none).bind _ = some u
            rw [hH]
            show (atI vs i).bind _ = some u
            rw [atI_of (by rw [o.len]; exact h1) k1]
            exact l1
          · obtain ⟨r1', q1, q2, q3⟩ := l5 ⟨X.g, fun b m n => X.h b (List.mem_cons_of_mem _ (k4 b m)) n, X.ow, X.nd, fun b m => (X.sub b m).imp id fun q m2 => q (List.mem_cons_of_mem _ (k4 b m2))⟩
            obtain ⟨r', p1, p2, p3⟩ := k5 (w' := w) ⟨X.g, fun b m n => X.h b (List.mem_cons_of_mem _ m) (fun m2 => n (l4 b m2)), q1, q2, fun b m => by
              rcases q3 b m with q | q
              · rcases X.sub b q with y | y
                · exact .inl (l4 b y)
                · exact .inr fun m2 => y (List.mem_cons_of_mem _ m2)
              · exact .inl q.1⟩
            have sub' : ∀ b ∈ r', b ∈ r2' ∨ (b ∈ r ∧ b ∉ r2) := fun b m => by
              rcases p3 b m with q | q
              · rcases q3 b q with y | y
                · exact .inl y
                · exact .inr ⟨k4 b y.1, y.2⟩
              · exact .inr ⟨q.1, fun m2 => q.2 (l4 b m2)⟩
            have ar' : a ∉ r' := fun m => by
              rcases sub' a m with q | q
              · rcases X.sub a q with y | y
                · exact n1.1 (k4 a (l4 a y))
                · exact y List.mem_cons_self
              · exact n1.1 q.1
            refine ⟨a :: r', ?_, List.nodup_cons.mpr ⟨ar', p2⟩, fun b m => ?_⟩
            · rw [hu, show setS1 (.otup xs) (.ix i) (updS s1 ps t') = .otup (setIx xs i (updS s1 ps t')) from rfl, setIx_eq h1]
              refine .otup ?_ p1
              rw [set_self k1, X.h a List.mem_cons_self fun m => n1.1 (k4 a (l4 a m))]
              exact hH
            · rcases List.mem_cons.mp m with rfl | m
              · exact .inr ⟨List.mem_cons_self, fun m => n1.1 (k4 _ (l4 _ m))⟩
              · exact (sub' b m).imp id fun q => ⟨List.mem_cons_of_mem _ q.1, q.2⟩
      | @obj a C dx c vs fs r m hH o =>
        cases p with
        | ix i => cases z
        | fld cn n =>
          have n1 := List.nodup_cons.mp nd
          have z' : (if c = cn then fs.lookup n else none) = some s1 := z
          by_cases ec : c = cn
          · rw [if_pos ec] at z'
            obtain ⟨w, r1, k1, k2, k3, k4, k5⟩ := o.exch n1.2 z'
            obtain ⟨u, r2, l1, l2, l3, l4, l5⟩ := Ow.exch (ps := ps) k2 k3 e'
            refine ⟨u, r2, ?_, l2, l3, fun b m => List.mem_cons_of_mem _ (k4 b (l4 b m)), fun {G' H' t' r2'} X => ?_⟩
            · show (match H a with | some (.ins _ _ vs) => vs.lookup n | _ => none).bind _ = some u
              rw [hH]
              show (vs.lookup n).bind _ = some u
              rw [k1]
              exact l1
            · obtain ⟨r1', q1, q2, q3⟩ := l5 ⟨X.g, fun b m n => X.h b (List.mem_cons_of_mem _ (k4 b m)) n, X.ow, X.nd, fun b m => (X.sub b m).imp id fun q m2 => q (List.mem_cons_of_mem _ (k4 b m2))⟩
              obtain ⟨r', p1, p2, p3⟩ := k5 ⟨X.g, fun b m n => X.h b (List.mem_cons_of_mem _ m) (fun m2 => n (l4 b m2)), q1, q2, fun b m => by
                rcases q3 b m with q | q
                · rcases X.sub b q with y | y
                  · exact .inl (l4 b y)
                  · exact .inr fun m2 => y (List.mem_cons_of_mem _ m2)
                · exact .inl q.1⟩
              have sub' : ∀ b ∈ r', b ∈ r2' ∨ (b ∈ r ∧ b ∉ r2) := fun b m => by
                rcases p3 b m with q | q
                · rcases q3 b q with y | y
                  · exact .inl y
                  · exact .inr ⟨k4 b y.1, y.2⟩
                · exact .inr ⟨q.1, fun m2 => q.2 (l4 b m2)⟩
              have ar' : a ∉ r' := fun m => by
                rcases sub' a m with q | q
                · rcases X.sub a q with y | y
                  · exact n1.1 (k4 a (l4 a y))
                  · exact y List.mem_cons_self
                · exact n1.1 q.1
              refine ⟨a :: r', ?_, List.nodup_cons.mpr ⟨ar', p2⟩, fun b m => ?_⟩
              · rw [hu]
                exact .obj m ((X.h a List.mem_cons_self fun m => n1.1 (k4 a (l4 a m))).trans hH) p1
              · rcases List.mem_cons.mp m with rfl | m
                · exact .inr ⟨List.mem_cons_self, fun m => n1.1 (k4 _ (l4 _ m))⟩
                · exact (sub' b m).imp id fun q => ⟨List.mem_cons_of_mem _ q.1, q.2⟩
          · rw [if_neg ec] at z'; cases z'
/-- one element taken out -/
theorem Ows.take1 : ∀ {vs : List V} {xs : List SV} {r : List Addr} {j : Nat} {s : SV}, Ows K mg G H vs xs r → r.Nodup → xs[j]? = some s → ∃ w r1 r2, vs[j]? = some w ∧ Ow K mg G H w s r1 ∧ Ows K mg G H (vs.eraseIdx j) (xs.eraseIdx j) r2 ∧ (r1 ++ r2).Nodup ∧ ∀ a ∈ r1 ++ r2, a ∈ r
  | _, _, _, _, _, .nil, _, h => by simp at h
  | _, _, _, 0, s, @Ows.cons _ _ _ _ v vs x xs r rs h t, nd, e => by
    have e' : x = s := by simpa using e
    subst e'
    exact ⟨v, r, rs, rfl, h, t, nd, fun a m => m⟩
  | _, _, _, j + 1, s, @Ows.cons _ _ _ _ v vs x xs r rs h t, nd, e => by
    have n1 := List.nodup_append.mp nd
    obtain ⟨w, r1, r2, h1, h2, h3, h4, h5⟩ := Ows.take1 (j := j) t n1.2.1 (by simpa using e)
    have n2 := List.nodup_append.mp h4
    refine ⟨w, r1, r ++ r2, by simpa using h1, h2, .cons h h3, ?_, fun a m => ?_⟩
    · refine List.nodup_append.mpr ⟨n2.1, List.nodup_append.mpr ⟨n1.1, n2.2.1, fun a m1 b m2 q => n1.2.2 a m1 b (h5 b (List.mem_append_right _ m2)) q⟩, fun a m1 b m2 q => ?_⟩
      subst q
      rcases List.mem_append.mp m2 with m | m
      · exact n1.2.2 a m a (h5 a (List.mem_append_left _ m1)) rfl
      · exact n2.2.2 a m1 a m rfl
    · rcases List.mem_append.mp m with m | m
      · exact List.mem_append_right _ (h5 a (List.mem_append_left _ m))
      · rcases List.mem_append.mp m with m | m
        · exact List.mem_append_left _ m
        · exact List.mem_append_right _ (h5 a (List.mem_append_right _ m))
end
end VL

set_option Elab.async false
set_option linter.all false
set_option maxRecDepth 100000
set_option maxHeartbeats 4000000
namespace VL
open PySem PySem.Spec PyProof.Rows L2

/-! ### places as they are read -/
def rd (e : Env) (i : Nat) : Option SV := match e[i]? with
  | some (.va s) => some s
  | some (.rf s) => some s
  | some (.vw s) => some s
  | _ => none
abbrev Plc := Nat × List Pst × SV
/-- u is the place's value -/
def AtP (σ : L2.St) (env : Env) (H : Hp) (x : Plc) (u : V) : Prop := ∃ s v, rd env x.1 = some s ∧ subS s x.2.1 = some x.2.2 ∧ σ[x.1]? = some (some v) ∧ reach H v x.2.1 = some u
def tPl (K : PySem.W.Frag) (mg : Str → Option Value) (W : WX) (f : Env → Res Plc) : TE := fun σ H Q => ∃ G env fp pv, RS K mg G σ env H fp pv ∧
  PostR mg W σ H (fun x => ∀ u G' H', Ext G H G' H' → AtP σ env H' x u → Q u H') (f env)
section
variable {K : PySem.W.Frag} {mg : Str → Option Value} {G G' H H' : Hp} {fp : Nat → List Addr} {σ : L2.St} {env : Env} {pv : Nat → V}
theorem RS.rd (h : RS K mg G σ env H fp pv) {i : Nat} {s : SV} (z : rd env i = some s) : ∃ v r, σ[i]? = some (some v) ∧ Ow K mg G H v s r := by
  unfold VL.rd at z
  cases q : env[i]? with
  | none => rw [q] at z; cases z
  | some u =>
    rw [q] at z
    cases u with
    | no => cases z
    | va u =>
      cases z
      obtain ⟨v, e1, o⟩ := h.rel i _ q
      exact ⟨v, _, e1, o⟩
    | rf u =>
      cases z
      obtain ⟨e1, o⟩ := h.rel i _ q
      exact ⟨_, _, e1, o⟩
    | vw u =>
      cases z
      obtain ⟨_, v, r, e1, o⟩ := h.rel i _ q
      exact ⟨v, r, e1, o⟩
theorem rd_tree {e : Env} {i : Nat} {kd : Kind} {s : SV} (h : tree e i = some (kd, s)) : rd e i = some s := by
  unfold tree at h
  unfold rd
  cases q : e[i]? with
  | none => rw [q] at h; cases h
  | some u =>
    rw [q] at h
    cases u <;> first | (cases h; rfl) | cases h
theorem AtP.ow {x : Plc} {u : V} (rs : RS K mg G σ env H fp pv) (a : AtP σ env H x u) : ∃ r, Ow K mg G H u x.2.2 r := by
  obtain ⟨s, v, h1, h2, h3, h4⟩ := a
  obtain ⟨v', r, e1, o⟩ := rs.rd h1
  rw [h3] at e1
  cases e1
  obtain ⟨u', r1, e2, o2, _⟩ := o.see h2
  rw [h4] at e2
  cases e2
  exact ⟨r1, o2⟩
theorem AtP.same {x : Plc} {u : V} (e : Same H H') (a : AtP σ env H x u) : AtP σ env H' x u := by
  obtain ⟨s, v, h1, h2, h3, h4⟩ := a
  exact ⟨s, v, h1, h2, h3, reach_same e h4⟩
def plS (p : Pst) (x : Plc) : Res Plc := match stepS x.2.2 p with
  | some t => .ok (x.1, x.2.1 ++ [p], t)
  | none => .bad
theorem AtP.step {x : Plc} {u w : V} {p : Pst} {t : SV} (a : AtP σ env H x u) (h : stepS x.2.2 p = some t) (hv : stepV H u p = some w) : AtP σ env H (x.1, x.2.1 ++ [p], t) w := by
  obtain ⟨s, v, h1, h2, h3, h4⟩ := a
  refine ⟨s, v, h1, ?_, h3, ?_⟩
  · show subS s (x.2.1 ++ [p]) = some t
    rw [subS_snoc, h2]
    exact h
  · show reach H v (x.2.1 ++ [p]) = some w
    rw [reach_snoc, h4]
    exact hv
end
/-- data of a tree, where its leaves are data -/
def ldS : SV → Res PyData
  | .f (.d p) => .ok p
  | .own xs => match SV.leafs xs with | some ds => .ok (.list ds) | none => .bad
  | _ => .bad
def plN (i : Nat) : Env → Res Plc := fun env => match rd env i with
  | some s => .ok (i, [], s)
  | none => .bad
def plF (cn n : Str) (f : Env → Res Plc) : Env → Res Plc := fun env => (f env).bind (plS (.fld cn n))
def plX1 (x : Plc) : PyData → Res Plc
  | .int k => plS (.ix k) x
  | _ => .bad
def plX (f : Env → Res Plc) (g : FD) : Env → Res Plc := fun env => (f env).bind fun x => (g env).bind (plX1 x)
def plP1 (x : Plc) : Res FV := match x.2.2 with
  | .f y => .ok y
  | _ => .bad
def plP (f : Env → Res Plc) : FP := fun env => (f env).bind plP1
def plD (f : Env → Res Plc) : FD := fun env => (f env).bind fun x => ldS x.2.2
def plL1 (x : Plc) : Res FV := match x.2.2 with
  | .own xs => iI xs.length
  | _ => .bad
def plL (f : Env → Res Plc) : FP := fun env => (f env).bind plL1
section
variable {X : Cx} {W : WX} {a b c e o : Expr} {es : List Expr} {pos apos cpos : Pos} {st : Stmt} {sts : List Stmt}
abbrev VPl (X : Cx) (W : WX) (e : Expr) (f : Env → Res Plc) : Prop := PE X e (tPl X.K X.mg W f)
theorem vpl_name {i : Nat} (h : PE X e (tVar i)) : VPl X W e (plN i) := pe_imp h fun σ H Q ⟨G, env, fp, pv, rs, w⟩ => by
  unfold plN at w
  cases z : rd env i with
  | none => rw [z] at w; exact w.elim
  | some s =>
    rw [z] at w
    obtain ⟨v, r, e1, o⟩ := rs.rd z
    exact ⟨v, e1, w v G H (Ext.refl rs.sub) ⟨s, v, z, rfl, e1, rfl⟩⟩
theorem vpl_fld {cn n : Str} {f : Env → Res Plc} (hc : FldOk X cn n) (ha : VPl X W a f) (hb : attributeBase a n X.env (eval a X.env) = eval a X.env) : VPl X W (.Attribute a n pos) (plF cn n f) :=
  pe_imp (pe_fld ha hb) fun σ H Q ⟨G, env, fp, pv, rs, w⟩ => ⟨G, env, fp, pv, rs, PostR.seq w fun x w u G1 H1 e1 at1 => by
    unfold plS at w
    cases z : stepS x.2.2 (.fld cn n) with
    | none => rw [z] at w; exact w.elim
    | some t =>
      rw [z] at w
      obtain ⟨r, ow⟩ := at1.ow (rs.ext e1)
      obtain ⟨wv, r1, k1, k2, _⟩ := ow.see1 z
      have w' := w wv G1 H1 e1 (at1.step z k1)
      generalize hx : x.2.2 = s at *
      cases s with
      | f _ => cases z
      | own _ => cases z
      | otup _ => cases z
      | obj c fs =>
        have z' : (if c = cn then fs.lookup n else none) = some t := z
        by_cases ec : c = cn
        · cases ow with
          | @obj p C dx _ vs _ _ m hH of =>
            obtain ⟨q1, q2⟩ := hc C (by rw [← ec]; exact m)
            have k1' : (match H1 p with | some (.ins _ _ vs) => vs.lookup n | _ => none) = some wv := k1
            rw [hH] at k1'
            exact ⟨p, C, dx, vs, wv, rfl, hH, q1, q2, k1', w'⟩
        · rw [if_neg ec] at z'; cases z'⟩
theorem vpl_ix {f : Env → Res Plc} {g : FD} (ha : VPl X W a f) (hb : VD X W b g) (hs : PlainIx b) : VPl X W (.Subscript a b pos) (plX f g) :=
  pe_imp (pe_ix (IxR.or ix_list ix_tup) ha hb hs) fun σ H Q ⟨G, env, fp, pv, rs, w⟩ => ⟨G, env, fp, pv, rs, PostR.seq w fun x w u G1 H1 e1 at1 => by
    refine ⟨G1, env, fp, pv, rs.ext e1, PostR.imp (PostR.seq (k := fun y => PostR X.mg W σ H _ (plX1 x y)) w fun y w => w) e1.h fun y w v G2 H2 e2 q2 => ?_⟩
    have at2 := at1.same e2.h
    have ex := e1.trans e2
    cases y with
    | int k =>
      have w0 : PostR X.mg W σ H _ (plS (.ix k) x) := w
      unfold plS at w0
      cases z : stepS x.2.2 (.ix k) with
      | none => rw [z] at w0; exact w0.elim
      | some t =>
        rw [z] at w0
        obtain ⟨r, ow⟩ := at2.ow (rs.ext ex)
        obtain ⟨wv, r1, k1, k2, _⟩ := ow.see1 z
        have w' := w0 wv G2 H2 ex (at2.step z k1)
        have hv := q2.int
        subst hv
        generalize hx : x.2.2 = s at *
        cases s with
        | f _ => cases z
        | obj _ _ => cases z
        | own xs =>
          cases ow with
          | @own p vs _ _ hH of =>
            have k1' : (match H2 p with | some (.lst vs) => atI vs k | some (.tup vs) => atI vs k | _ => none) = some wv := k1
            rw [hH] at k1'
            exact .inl ⟨p, vs, k, wv, rfl, rfl, SqL.of hH, k1', w'⟩
        | otup xs =>
          cases ow with
          | @otup p vs _ _ hH of =>
            have k1' : (match H2 p with | some (.lst vs) => atI vs k | some (.tup vs) => atI vs k | _ => none) = some wv := k1
            rw [hH] at k1'
            exact .inr ⟨p, vs, k, wv, rfl, rfl, SqT.of hH, k1', w'⟩
    | none => exact w.elim
    | bool _ => exact w.elim
    | str _ => exact w.elim
    | list _ => exact w.elim
    | tuple _ => exact w.elim
    | dict _ => exact w.elim⟩
theorem vp_pl {f : Env → Res Plc} (h : VPl X W e f) : VP X W e (plP f) := pe_imp h fun σ H Q ⟨G, env, fp, pv, rs, w⟩ => ⟨G, env, fp, pv, rs, PostR.seq w fun x w u G1 H1 e1 at1 => by
  obtain ⟨r, ow⟩ := at1.ow (rs.ext e1)
  unfold plP1 at w
  generalize hx : x.2.2 = s at *
  cases s with
  | f y => cases ow with | f q => exact w u G1 H1 e1 q
  | own _ => exact w.elim
  | otup _ => exact w.elim
  | obj _ _ => exact w.elim⟩
theorem vd_pl {f : Env → Res Plc} (h : VPl X W e f) : VD X W e (plD f) := pe_imp h fun σ H Q ⟨G, env, fp, pv, rs, w⟩ => ⟨G, env, fp, pv, rs, PostR.seq w fun x w u G1 H1 e1 at1 => by
  obtain ⟨r, ow⟩ := at1.ow (rs.ext e1)
  unfold ldS at w
  generalize hx : x.2.2 = s at *
  cases s with
  | f y =>
    cases y with
    | d p => cases ow with | f q => cases q with | d q => exact w u G1 H1 e1 (.fz q)
    | ob _ _ => exact w.elim
    | sc _ => exact w.elim
  | own xs =>
    dsimp only at w
    cases z : SV.leafs xs with
    | none => rw [z] at w; exact w.elim
    | some ds =>
      rw [z] at w
      cases ow with
      | own hH of => exact w _ G1 H1 e1 (.top hH (leafs_dq of z))
  | otup _ => exact w.elim
  | obj _ _ => exact w.elim⟩
/-- len of a place -/
theorem vp_plen {f : Env → Res Plc} {p : Pos} (hm : X.mg "len" = none) (ha : VPl X W e f) (hg : Gl X "len" := by rfl) (he : starEach [e] X.env = (false, eval e X.env) :: starEach [] X.env := by rfl) (hpl : (backTo pos (starEach [] X.env)).any (·.1) = false := by rfl) : VP X W (.Call (.Name "len" p) [e] [] pos) (plL f) :=
  pe_imp (pe_callB call_len_seq hg hm boot_len (pa_cons ha pa_nil he) (by decide) (by decide) he hpl) fun σ H Q ⟨G, env, fp, pv, rs, w⟩ => ⟨G, env, fp, pv, rs, PostR.seq w fun x w u G1 H1 e1 at1 => by
    obtain ⟨r, ow⟩ := at1.ow (rs.ext e1)
    unfold plL1 at w
    generalize hx : x.2.2 = s at *
    cases s with
    | own xs =>
      cases ow with
      | @own p vs _ _ hH of => exact ⟨_, vs, rfl, .inl (SqL.of hH), by rw [of.len]; exact jP.int e1.s (jP.ext e1 w)⟩
    | f _ => exact w.elim
    | otup _ => exact w.elim
    | obj _ _ => exact w.elim⟩
end

/-! ### a list of a tree changed in place -/
section
variable {K : PySem.W.Frag} {mg : Str → Option Value} {G H G0 H0 : Hp} {fp fp0 : Nat → List Addr} {σ : L2.St} {env : Env} {pv : Nat → V}
theorem RS.mut {i : Nat} {kd : Kind} {s : SV} {ps : List Pst} {xs : List SV} {v u : V} (rs : RS K mg G σ env H fp pv) (tr : VL.tree env i = some (kd, s)) (hs : subS s ps = some (.own xs)) (hv : σ[i]? = some (some v)) (hu : reach H v ps = some u) :
    ∃ a vs rr, u = .ref a ∧ H a = some (.lst vs) ∧ Ows K mg G H vs xs rr ∧ (a :: rr).Nodup ∧ (∀ b ∈ a :: rr, b ∈ fp i) ∧
      ∀ {vs' xs' rr'}, Ows K mg G (upd H a (.lst vs')) vs' xs' rr' → (a :: rr').Nodup → (∀ b ∈ rr', b ∈ rr ∨ ((∀ j, b ∉ fp j) ∧ G b = none ∧ (H0 b = none ∨ ∃ j, b ∈ fp0 j))) → Stp G0 H0 fp0 G H fp →
        ∃ fp', RS K mg G σ ((env.map dv).set i (kd.mk (updS s ps (.own xs')))) (upd H a (.lst vs')) fp' pv ∧ Stp G0 H0 fp0 G (upd H a (.lst vs')) fp' ∧ (∀ j, j ≠ i → fp' j = fp j) ∧ (∀ b ∈ fp' i, b = a ∨ b ∈ rr' ∨ (b ∈ fp i ∧ b ∉ a :: rr)) := by
  obtain ⟨hs1, v', hv', hp, ow⟩ := rs.tree tr
  rw [hv] at hv'
  cases hv'
  obtain ⟨u', r1, e1, o1, n1, s1, ex⟩ := ow.exch (rs.nd i) hs
  rw [hu] at e1
  cases e1
  cases o1 with
  | @own a vs _ rr hH of =>
    refine ⟨a, vs, rr, rfl, hH, of, n1, s1, fun {vs' xs' rr'} of' nd' nw st => ?_⟩
    have hai : a ∈ fp i := s1 a List.mem_cons_self
    have ne : ∀ b, b ≠ a → (upd H a (.lst vs')) b = H b := fun b hb => upd_ne hb
    obtain ⟨r', o', n', q'⟩ := ex (G' := G) (H' := upd H a (.lst vs')) (t' := .own xs') (r1' := a :: rr') ⟨Same.refl _, fun b _ nb => ne b fun q => nb (by rw [q]; exact List.mem_cons_self), .own upd_same of', nd', fun b m => by
      rcases List.mem_cons.mp m with rfl | m
      · exact .inl List.mem_cons_self
      · rcases nw b m with q | q
        · exact .inl (List.mem_cons_of_mem _ q)
        · exact .inr (q.1 i)⟩
    have hr' : ∀ b ∈ r', b = a ∨ b ∈ rr' ∨ (b ∈ fp i ∧ b ∉ a :: rr) := fun b m => by
      rcases q' b m with q | q
      · rcases List.mem_cons.mp q with q | q
        · exact .inl q
        · exact .inr (.inl q)
      · exact .inr (.inr q)
    have rs2 := rs.put (H' := upd H a (.lst vs')) (s' := updS s ps (.own xs')) (r := r') hs1 hv hp (fun b hb _ => ne b fun q => hb (by rw [q]; exact hai)) o' n' fun b hb => by
      have inI : b ∈ fp i → G b = none ∧ ∀ j, j ≠ i → b ∉ fp j := fun m => ⟨rs.out i b m, fun j hj m2 => hj (rs.dj j i b m2 m)⟩
      rcases hr' b hb with rfl | q | q
      · exact inI hai
      · rcases nw b q with q | q
        · exact inI (s1 b (List.mem_cons_of_mem _ q))
        · exact ⟨q.2.1, fun j _ => q.1 j⟩
      · exact inI q.1
    refine ⟨_, rs2, ⟨st.g, fun b o h q => ?_, st.n, fun j b m => ?_, fun b h => ?_, fun b C dx ws h => ?_⟩, fun j hj => if_neg hj, fun b m => hr' b (by have m' : b ∈ (if i = i then r' else fp i) := m; rw [if_pos rfl] at m'; exact m')⟩
    · have h1 := st.fr b o h q
      by_cases hb : b = a
      · subst hb
        rcases st.f i b hai with z | ⟨j, z⟩
        · rw [h] at z; cases z
        · exact absurd z (q j)
      · rw [ne b hb]; exact h1
    · have m' : b ∈ (if j = i then r' else fp j) := m
      by_cases hj : j = i
      · rw [if_pos hj] at m'
        rcases hr' b m' with rfl | q | q
        · exact st.f i _ hai
        · rcases nw b q with q | q
          · exact st.f i b (s1 b (List.mem_cons_of_mem _ q))
          · exact q.2.2
        · exact st.f i b q.1
      · rw [if_neg hj] at m'; exact st.f j b m'
    · by_cases hb : b = a
      · rw [hb, upd_same] at h; cases h
      · rw [ne b hb] at h; exact st.trk b h
    · obtain ⟨ws', h1, h2⟩ := st.fld b C dx ws h
      by_cases hb : b = a
      · rw [hb, hH] at h1; cases h1
      · exact ⟨ws', by rw [ne b hb]; exact h1, h2⟩
end

/-! ### expressions that change trees -/
abbrev FE := Env → Out SV
def Out.bind {α β : Type} : Out α → (α → Env → Out β) → Out β
  | .ok a e, k => k a e
  | .err c, _ => .err c
  | .bad, _ => .bad
def oR {α β : Type} (r : Res α) (k : α → Out β) : Out β := match r with
  | .ok a => k a
  | .err c => .err c
  | .bad => .bad
def PostO {α : Type} (K : PySem.W.Frag) (mg : Str → Option Value) (W : WX) (σ : L2.St) (G H : Hp) (fp : Nat → List Addr) (pv : Nat → V) (k : α → Env → Hp → Hp → (Nat → List Addr) → Prop) : Out α → Prop
  | .ok a e => ∀ G' H' fp', Stp G H fp G' H' fp' → RS K mg G' σ e H' fp' pv → k a e G' H' fp'
  | .err c => ∀ C G' H', mg c = some (.ref C) → Stp G H fp G' H' (fun _ => []) → Same G' H' → W (.ref C) none σ H'
  | .bad => False
/-- a value's footprint is fresh -/
def Fresh (G' H : Hp) (fp fp' : Nat → List Addr) (r : List Addr) : Prop := ∀ a ∈ r, G' a = none ∧ (∀ i, a ∉ fp' i) ∧ (H a = none ∨ ∃ j, a ∈ fp j)
def kE (K : PySem.W.Frag) (mg : Str → Option Value) (Q : VK) (H : Hp) (fp : Nat → List Addr) : SV → Env → Hp → Hp → (Nat → List Addr) → Prop :=
  fun s _ G' H' fp' => ∀ v r, Ow K mg G' H' v s r → r.Nodup → Fresh G' H fp fp' r → Q v H'
def tE (K : PySem.W.Frag) (mg : Str → Option Value) (W : WX) (f : FE) : TE := fun σ H Q => ∃ G env fp pv, RS K mg G σ env H fp pv ∧ PostO K mg W σ G H fp pv (kE K mg Q H fp) (f env)
section
variable {K : PySem.W.Frag} {mg : Str → Option Value} {G H G' H' : Hp} {fp fp' : Nat → List Addr} {σ : L2.St} {env : Env} {pv : Nat → V} {W : WX}
theorem Stp.none (s : Stp G H fp G' H' fp') : Stp G H fp G' H' (fun _ => []) := s.sub fun _ _ m => by cases m
theorem PostO.step {α : Type} {k : α → Env → Hp → Hp → (Nat → List Addr) → Prop} {o : Out α} (s : Stp G H fp G' H' fp') (h : PostO K mg W σ G H fp pv k o) : PostO K mg W σ G' H' fp' pv k o := by
  cases o with
  | ok a e => exact fun G2 H2 fp2 s2 r => h G2 H2 fp2 (s.trans s2) r
  | err c => exact fun C G2 H2 m s2 q => h C G2 H2 m (s.trans s2) q
  | bad => exact h
theorem PostO.imp {α : Type} {k k' : α → Env → Hp → Hp → (Nat → List Addr) → Prop} {o : Out α} (h : PostO K mg W σ G H fp pv k o) (q : ∀ a e G' H' fp', k a e G' H' fp' → k' a e G' H' fp') : PostO K mg W σ G H fp pv k' o := by
  cases o with
  | ok a e => exact fun G2 H2 fp2 s2 r => q _ _ _ _ _ (h G2 H2 fp2 s2 r)
  | err c => exact h
  | bad => exact h
/-- an effect, then what follows -/
theorem PostO.seq {α β : Type} {k : β → Env → Hp → Hp → (Nat → List Addr) → Prop} {o : Out α} {g : α → Env → Out β} (h : PostO K mg W σ G H fp pv k (o.bind g)) :
    PostO K mg W σ G H fp pv (fun a e G' H' fp' => RS K mg G' σ e H' fp' pv ∧ Stp G H fp G' H' fp' ∧ PostO K mg W σ G' H' fp' pv k (g a e)) o := by
  cases o with
  | ok a e =>
    have h' : PostO K mg W σ G H fp pv k (g a e) := h
    exact fun G2 H2 fp2 s2 r => ⟨r, s2, h'.step s2⟩
  | err c => exact h
  | bad => exact h
theorem PostO.seq0 {α β : Type} {k : β → Env → Hp → Hp → (Nat → List Addr) → Prop} {o : Out α} {g : α → Env → Out β} (h : PostO K mg W σ G H fp pv k (o.bind g)) :
    PostO K mg W σ G H fp pv (fun a e G' H' fp' => RS K mg G' σ e H' fp' pv ∧ Stp G H fp G' H' fp' ∧ PostO K mg W σ G H fp pv k (g a e)) o := by
  cases o with
  | ok a e => exact fun G2 H2 fp2 s2 r => ⟨r, s2, h⟩
  | err c => exact h
  | bad => exact h
/-- an expression's answer, then an effect -/
theorem PostO.ofR {α β : Type} {k : β → Env → Hp → Hp → (Nat → List Addr) → Prop} {r : Res α} {g : α → Out β} {j : α → Prop} (rs : RS K mg G σ env H fp pv) (h : PostO K mg W σ G H fp pv k (oR r g)) (q : ∀ a, PostO K mg W σ G H fp pv k (g a) → j a) : PostR mg W σ H j r := by
  cases r with
  | ok a => exact q a h
  | err c => exact fun C H2 m s => h C G H2 m (Stp.of_ext (fp := fp) ⟨Same.refl _, s, rs.sub.trans s, fun _ _ e => .inl e⟩).none (rs.sub.trans s)
  | bad => exact h
theorem Fresh.step {G2 H2 G3 : Hp} {fp2 fp3 : Nat → List Addr} {r : List Addr} (s : Stp G H fp G2 H2 fp2) (h : Fresh G3 H2 fp2 fp3 r) : Fresh G3 H fp fp3 r := fun a m => by
  obtain ⟨a1, a2, a3⟩ := h a m
  refine ⟨a1, a2, ?_⟩
  rcases a3 with q | ⟨j, q⟩
  · exact .inl (s.trk a q)
  · exact s.f j a q
end
section
variable {X : Cx} {W : WX} {a b c e o : Expr} {es : List Expr} {pos apos cpos : Pos} {st : Stmt} {sts : List Stmt}
abbrev VE (X : Cx) (W : WX) (e : Expr) (f : FE) : Prop := PE X e (tE X.K X.mg W f)
def eO (f : FO) : FE := fun env => oR (f env) fun s => .ok s env
theorem ve_o {f : FO} (h : VO X W e f) : VE X W e (eO f) := pe_imp h fun σ H Q ⟨G, env, fp, pv, rs, w⟩ => ⟨G, env, fp, pv, rs, PostO.ofR rs w fun s w v G1 H1 r e1 ow nd fr =>
  w G1 H1 fp (Stp.of_ext e1) (rs.ext e1) v r ow nd fun a m => ⟨(fr a m).2, rs.notin (fr a m).1, .inl (fr a m).1⟩⟩
/-- what is left of the slots behind an exception -/
def keepF : Slot → Slot
  | .va (.f x) => .va (.f x)
  | _ => .no
theorem RS.keepF {K : PySem.W.Frag} {mg : Str → Option Value} {G H G' H' : Hp} {fp fp' : Nat → List Addr} {σ : L2.St} {env : Env} {pv : Nat → V} (h : RS K mg G σ env H fp pv) (st : Stp G H fp G' H' fp') (s : Same G' H') : RS K mg G' σ (env.map VL.keepF) H' (fun _ => []) pv where
  len := by rw [List.length_map]; exact h.len
  rel := fun i s e => by
    rw [List.getElem?_map] at e
    cases z : env[i]? with
    | none => rw [z] at e; cases e
    | some t =>
      rw [z] at e
      cases e
      have r := h.rel i t z
      cases t with
      | no => rfl
      | rf _ => rfl
      | vw _ => rfl
      | va t =>
        cases t with
        | f x =>
          obtain ⟨v, e1, o⟩ := r
          refine ⟨v, e1, ?_⟩
          generalize fp i = r at o
          cases o with | f q => exact .f (q.mono st.g)
        | own _ => rfl
        | otup _ => rfl
        | obj _ _ => rfl
  nil := fun _ _ => rfl
  sub := s
  out := fun _ _ m => by cases m
  nd := fun _ => .nil
  dj := fun _ _ _ m => by cases m
def ofO {α : Type} (o : Out α) (env : Env) (k : α → Env → Flow) : Flow := match o with
  | .ok a e => k a e
  | .err c => .err c (env.map keepF)
  | .bad => .bad
theorem Post.ofO {α : Type} {K : PySem.W.Frag} {mg : Str → Option Value} {G H : Hp} {fp : Nat → List Addr} {σ : L2.St} {env : Env} {pv : Nat → V} {W : WX} {D : Ends} {o : Out α} {g : α → Env → Flow} {k : α → Env → Hp → Hp → (Nat → List Addr) → Prop} (rs : RS K mg G σ env H fp pv) (h : Post K mg W D G H fp pv (VL.ofO o env g))
    (q : ∀ a e G' H' fp', RS K mg G' σ e H' fp' pv → Stp G H fp G' H' fp' → Post K mg W D G H fp pv (g a e) → k a e G' H' fp') : PostO K mg W σ G H fp pv k o := by
  cases o with
  | ok a e => exact fun G' H' fp' st r => q a e G' H' fp' r st h
  | err c => exact fun C G' H' m st s => h C G' σ H' (fun _ => []) m st (rs.keepF st s)
  | bad => exact h
/-- an effect as a statement; stored; returned -/
def vEx (f : FE) : ST := fun env => ofO (f env) env fun _ e => .nx e
def vSetE (i : Nat) (f : FE) : ST := fun env => ofO (f env) env fun s e => setS e i (.va s)
def vRetE (f : FE) : ST := fun env => ofO (f env) env fun s e => .rt s e
theorem vs_ex {f : FE} (he : VE X W e f) (hs : swapsWith e none pos.line X.env = pure false := by rfl) : VS X W (.Expr e pos) (vEx f) := ps_imp (ps_expr he hs) fun D σ H ⟨G, env, fp, pv, rs, w⟩ => ⟨G, env, fp, pv, rs, Post.ofO rs w fun s e G1 H1 fp1 rs1 st w v r ow nd fr => w G1 σ H1 fp1 st rs1⟩
theorem imp_setE {i : Nat} {f : FE} {D : Ends} {σ : L2.St} {H : Hp} (h : tS X.K X.mg W (vSetE i f) D σ H) : tAsg (tE X.K X.mg W f) (gName i) D σ H := by
  obtain ⟨G, env, fp, pv, rs, w⟩ := h
  refine ⟨G, env, fp, pv, rs, Post.ofO rs w fun s e G1 H1 fp1 rs1 st w v r ow nd fr => ?_⟩
  unfold setS at w
  by_cases c : canSet e i = true
  · rw [if_pos c] at w
    refine w G1 _ H1 _ (st.sub ?_) (rs1.set (canSet_lt c) ow nd fun a m => ⟨(fr a m).1, (fr a m).2.1⟩)
    intro j b m
    by_cases hj : j = i
    · rw [if_pos hj] at m; exact (fr b m).2.2
    · rw [if_neg hj] at m; exact st.f j b m
  · rw [if_neg c] at w; exact w.elim
theorem vs_setE {i : Nat} {x : Str} {f : FE} {pos' : Pos} (hN : X.N.Nodup) (hi : X.N[i]? = some x) (hx : Loc X.env.scope x) (he : VE X W e f) (hs : swapsWith e (some (.Name x pos')) pos.line X.env = pure false) (hf : X.fn x = true ∨ X.env.scope.names.lookup x = some .local) :
    VS X W (.Assign [.Name x pos'] e pos) (vSetE i f) := ps_imp (ps_set hN hi hx he hs hf) fun D σ H h => imp_setE h
theorem vs_retE {f : FE} (he : VE X W e f) : VS X W (.Return (some e) pos) (vRetE f) := ps_imp (ps_ret he) fun D σ H ⟨G, env, fp, pv, rs, w⟩ => ⟨G, env, fp, pv, rs, Post.ofO rs w fun s e G1 H1 fp1 rs1 st w v r ow nd fr => w v G1 σ H1 fp1 r st rs1 ow nd fr⟩
/-- the place's list exchanged -/
def putP (env : Env) (x : Plc) (ys : List SV) : Option Env := match tree env x.1 with
  | some (kd, t) => some ((env.map dv).set x.1 (kd.mk (updS t x.2.1 (.own ys))))
  | none => none
def oE (s : SV) : Option Env → Out SV
  | some e => .ok s e
  | none => .bad
/-! append -/
noncomputable def vApp1 (env : Env) (x : Plc) (s : SV) : Out SV := match x.2.2 with
  | .own xs => cIf (xs.length < 16777216) (oE (.f (.d .none)) (putP env x (xs ++ [s]))) .bad
  | _ => .bad
/-- the place is a list -/
def lstP (x : Plc) : Res Plc := match x.2.2 with
  | .own _ => .ok x
  | _ => .bad
noncomputable def vApp (f : Env → Res Plc) (g : FO) : FE := fun env => oR ((f env).bind lstP) fun x => oR (g env) fun s => vApp1 env x s
theorem oR_bind {α β γ : Type} (r : Res α) (k : α → Res β) (j : β → Out γ) : oR (r.bind k) j = oR r fun a => oR (k a) j := by cases r <;> rfl
/-- a list's place, then an effect -/
theorem PostO.lst {β : Type} {K : PySem.W.Frag} {mg : Str → Option Value} {G H : Hp} {fp : Nat → List Addr} {σ : L2.St} {env : Env} {pv : Nat → V} {W : WX} {k : β → Env → Hp → Hp → (Nat → List Addr) → Prop} {r : Res Plc} {g : Plc → Out β} {j : Plc → Prop} (rs : RS K mg G σ env H fp pv) (h : PostO K mg W σ G H fp pv k (oR (r.bind lstP) g))
    (q : ∀ x xs, x.2.2 = .own xs → PostO K mg W σ G H fp pv k (g x) → j x) : PostR mg W σ H j r := by
  rw [oR_bind] at h
  refine PostO.ofR rs h fun x w => ?_
  unfold lstP at w
  cases z : x.2.2 with
  | own xs => rw [z] at w; exact q x xs z w
  | f _ => rw [z] at w; exact w.elim
  | otup _ => rw [z] at w; exact w.elim
  | obj _ _ => rw [z] at w; exact w.elim
/-- a list of a tree, as a rule on methods wants it -/
theorem app_ok {G H G0 H0 : Hp} {fp fp0 : Nat → List Addr} {σ : L2.St} {env : Env} {pv : Nat → V} {x : Plc} {u v : V} {s : SV} {r : List Addr} {Q : VK} (rs : RS X.K X.mg G σ env H fp pv) (at1 : AtP σ env H x u) (st : Stp G0 H0 fp0 G H fp)
    (ow : Ow X.K X.mg G H v s r) (nd : r.Nodup) (fr : ∀ a ∈ r, G a = none ∧ (∀ i, a ∉ fp i) ∧ (H0 a = none ∨ ∃ j, a ∈ fp0 j))
    (w : PostO X.K X.mg W σ G0 H0 fp0 pv (kE X.K X.mg Q H0 fp0) (vApp1 env x s)) : rAppend u [v] H Q := by
  obtain ⟨t, v0, h1, h2, h3, h4⟩ := at1
  obtain ⟨i, ps, tx⟩ := x
  dsimp only at h1 h2 h3 h4
  unfold vApp1 at w
  cases tx with
  | own xs =>
    dsimp only at w
    by_cases hl : xs.length < 16777216
    · rw [cIf_pos hl] at w
      unfold putP at w
      cases z : tree env i with
      | none => rw [z] at w; exact w.elim
      | some kt =>
        obtain ⟨kd, t'⟩ := kt
        have e := rd_tree z
        rw [h1] at e
        cases e
        rw [z] at w
        obtain ⟨a, vs, rr, eu, hH, of, n1, s1, mk⟩ := rs.mut (H0 := H0) (fp0 := fp0) (G0 := G0) z h2 h3 h4
        have ndr := List.nodup_cons.mp n1
        have ar : a ∉ r := fun m => (fr a m).2.1 i (s1 a List.mem_cons_self)
        have of2 : Ows X.K X.mg G (upd H a (.lst (vs ++ [v]))) (vs ++ [v]) (xs ++ [s]) (rr ++ (r ++ [])) :=
          (of.mono (Same.refl _) fun b m => upd_ne fun q => ndr.1 (by rw [← q]; exact m)).append (.cons (ow.mono (Same.refl _) fun b m => upd_ne fun q => ar (by rw [← q]; exact m)) .nil)
        rw [List.append_nil] at of2
        obtain ⟨fp', rs', st', _, _⟩ := mk of2 (List.nodup_cons.mpr ⟨fun m => by
          rcases List.mem_append.mp m with m | m
          · exact ndr.1 m
          · exact ar m, List.nodup_append.mpr ⟨ndr.2, nd, fun b m1 b' m2 q => by
          subst q
          exact (fr b m2).2.1 i (s1 b (List.mem_cons_of_mem _ m1))⟩⟩) (fun b m => by
          rcases List.mem_append.mp m with m | m
          · exact .inl m
          · exact .inr ⟨(fr b m).2.1, (fr b m).1, (fr b m).2.2⟩) st
        refine ⟨a, vs, v, eu, rfl, hH, by rw [of.len, sl_eq]; exact hl, ?_⟩
        exact w G _ fp' st' rs' .non [] (.f (.d .non)) .nil fun b m => by cases m
    · rw [cIf_neg hl] at w; exact w.elim
  | f _ => exact w.elim
  | otup _ => exact w.elim
  | obj _ _ => exact w.elim
theorem at_list {G H : Hp} {fp : Nat → List Addr} {σ : L2.St} {env : Env} {pv : Nat → V} {x : Plc} {u : V} {xs : List SV} (rs : RS X.K X.mg G σ env H fp pv) (at1 : AtP σ env H x u) (e : x.2.2 = .own xs) : tyV X.K "list" u H := by
  obtain ⟨r, ow⟩ := at1.ow rs
  rw [e] at ow
  cases ow with
  | @own p vs _ _ hH of => exact .inl ⟨rfl, vs, SqL.of hH⟩
theorem ve_app {f : Env → Res Plc} {g : FO} (ho : VPl X W o f) (he : VO X W e g) (hbase : attributeBase o "append" X.env (eval o X.env) = eval o X.env := by rfl)
    (hfew : ((backTo cpos (starEach [e] X.env)).all (fun x => !x.1) && (backToKw cpos (keywordEach [] X.env)).all (fun x => x.1.isSome) && decide (([e] : List Expr).length + ([] : List Keyword).length + (if ([] : List Keyword).isEmpty then 0 else 1) < 30)) = true := by rfl)
    (hline : (apos.endLine == cpos.line) = true := by rfl) (hs : starEach [e] X.env = (false, eval e X.env) :: starEach [] X.env := by rfl) (hpl : (backTo cpos (starEach [] X.env)).any (·.1) = false := by rfl) :
    VE X W (.Call (.Attribute o "append" apos) [e] [] cpos) (vApp f g) :=
  pe_imp (pe_bm PySem.F.plainAttrs_list PySem.F.slot_list_append PySem.F.type_list_append mt_append ho (pa_cons he pa_nil hs) hbase hfew hline hs hpl) fun σ H Q ⟨G, env, fp, pv, rs, w⟩ => ⟨G, env, fp, pv, rs, PostO.lst rs w fun x xs hx w u G1 H1 e1 at1 => by
    have rs1 := rs.ext e1
    have w1 := w.step (Stp.of_ext (fp := fp) e1)
    refine ⟨at_list rs1 at1 hx, G1, env, fp, pv, rs1, PostO.ofR rs1 w1 fun s w2 v G2 H2 r e2 ow nd fr => ?_⟩
    exact app_ok (rs1.ext e2) (at1.same e2.h) (Stp.of_ext (fp := fp) e2) ow nd (fun a m => ⟨(fr a m).2, rs1.notin (fr a m).1, .inl (fr a m).1⟩) (PostO.imp w2 fun s e G' H' fp' k v r ow nd fr => k v r ow nd (Fresh.step (Stp.of_ext (fp := fp) e1) fr))⟩
end
end VL

set_option Elab.async false
set_option linter.all false
set_option maxRecDepth 100000
set_option maxHeartbeats 4000000
namespace VL
open PySem PySem.Spec PyProof.Rows L2

section
variable {X : Cx} {W : WX} {a b c e o : Expr} {es : List Expr} {pos apos cpos : Pos} {st : Stmt} {sts : List Stmt}
/-! ### append of what an effect tells -/
def fldsOnly (ps : List Pst) : Bool := ps.all fun p => match p with
  | .fld _ n => decide (n ≠ "chance")
  | .ix _ => false
theorem reach_flds {H H' : Hp} (k : ∀ a C dx vs, H a = some (.ins C dx vs) → ∃ vs', H' a = some (.ins C dx vs') ∧ ∀ (f : Str) x, f ≠ "chance" → vs.lookup f = some x → vs'.lookup f = some x) : ∀ {ps : List Pst} {v u : V}, fldsOnly ps = true → reach H v ps = some u → reach H' v ps = some u
  | [], _, _, _, h => h
  | p :: ps, v, u, hf, h => by
    unfold fldsOnly at hf
    rw [List.all_cons, Bool.and_eq_true] at hf
    have h' : (stepV H v p).bind (fun w => reach H w ps) = some u := h
    show (stepV H' v p).bind (fun w => reach H' w ps) = some u
    cases p with
    | ix i => cases hf.1
    | fld c n =>
      have hn : n ≠ "chance" := of_decide_eq_true hf.1
      cases z : stepV H v (.fld c n) with
      | none => rw [z] at h'; cases h'
      | some w =>
        rw [z] at h'
        cases v with
        | ref a =>
          have z' : (match H a with | some (.ins _ _ vs) => vs.lookup n | _ => none) = some w := z
          cases q : H a with
          | none => rw [q] at z'; cases z'
          | some ob =>
            rw [q] at z'
            cases ob with
            | ins C dx vs =>
              obtain ⟨vs', h1, h2⟩ := k a C dx vs q
              have z2 : stepV H' (.ref a) (.fld c n) = some w := by
                show (match H' a with | some (.ins _ _ vs) => vs.lookup n | _ => none) = some w
                rw [h1]
                exact h2 n w hn z'
              rw [z2]
              exact reach_flds k hf.2 h'
            | _ => cases z'
        | _ => cases z
/-- the place as it is behind an effect -/
def reP (e : Env) (x : Plc) : Option Plc := match rd e x.1 with
  | some t => match subS t x.2.1 with
    | some (.own xs) => some (x.1, x.2.1, .own xs)
    | _ => none
  | none => none
noncomputable def vAppE1 (x : Plc) (s : SV) (e : Env) : Out SV := match reP e x with
  | some x' => vApp1 e x' s
  | none => .bad
noncomputable def vAppE (f : Env → Res Plc) (g : FE) : FE := fun env => oR ((f env).bind lstP) fun x => if fldsOnly x.2.1 = true then (g env).bind (vAppE1 x) else .bad
theorem ve_appE {f : Env → Res Plc} {g : FE} (ho : VPl X W o f) (he : VE X W e g) (hbase : attributeBase o "append" X.env (eval o X.env) = eval o X.env := by rfl)
    (hfew : ((backTo cpos (starEach [e] X.env)).all (fun x => !x.1) && (backToKw cpos (keywordEach [] X.env)).all (fun x => x.1.isSome) && decide (([e] : List Expr).length + ([] : List Keyword).length + (if ([] : List Keyword).isEmpty then 0 else 1) < 30)) = true := by rfl)
    (hline : (apos.endLine == cpos.line) = true := by rfl) (hs : starEach [e] X.env = (false, eval e X.env) :: starEach [] X.env := by rfl) (hpl : (backTo cpos (starEach [] X.env)).any (·.1) = false := by rfl) :
    VE X W (.Call (.Attribute o "append" apos) [e] [] cpos) (vAppE f g) :=
  pe_imp (pe_bm PySem.F.plainAttrs_list PySem.F.slot_list_append PySem.F.type_list_append mt_append ho (pa_cons he pa_nil hs) hbase hfew hline hs hpl) fun σ H Q ⟨G, env, fp, pv, rs, w⟩ => ⟨G, env, fp, pv, rs, PostO.lst rs w fun x xs hx w u G1 H1 e1 at1 => by
    by_cases hf : fldsOnly x.2.1 = true
    · rw [if_pos hf] at w
      have rs1 := rs.ext e1
      have w1 := (w.step (Stp.of_ext (fp := fp) e1)).seq0
      refine ⟨at_list rs1 at1 hx, G1, env, fp, pv, rs1, PostO.imp w1 fun s e' G2 H2 fp2 ⟨rs2, st2, w2⟩ v r ow nd fr => ?_⟩
      unfold vAppE1 at w2
      cases z : reP e' x with
      | none => rw [z] at w2; exact w2.elim
      | some x' =>
        rw [z] at w2
        unfold reP at z
        cases zr : rd e' x.1 with
        | none => rw [zr] at z; cases z
        | some t =>
          rw [zr] at z
          dsimp only at z
          cases zs : subS t x.2.1 with
          | none => rw [zs] at z; cases z
          | some t2 =>
            rw [zs] at z
            cases t2 with
            | own ys =>
              cases z
              obtain ⟨s0, v0, _, _, h3, h4⟩ := at1
              have at2 : AtP σ e' H2 (x.1, x.2.1, SV.own ys) u := ⟨t, v0, zr, zs, h3, reach_flds st2.fld hf h4⟩
              have w3 : PostO X.K X.mg W σ G1 H1 fp pv (kE X.K X.mg Q H1 fp) (vApp1 e' (x.1, x.2.1, SV.own ys) s) := PostO.imp w2 fun s e G' H' fp' k v r ow nd fr => k v r ow nd (Fresh.step (Stp.of_ext (fp := fp) e1) fr)
              exact app_ok rs2 at2 st2 ow nd fr w3
            | f _ => cases z
            | otup _ => cases z
            | obj _ _ => cases z
    · rw [if_neg hf] at w; exact w.elim⟩

/-! ### pop -/
def pop1 (env : Env) (x : Plc) : Out SV := match x.2.2 with
  | .own (y :: ys) => oE y (putP env x ys)
  | _ => .bad
def vPop0 (f : Env → Res Plc) : FE := fun env => oR ((f env).bind lstP) (pop1 env)
theorem pop_core {G H : Hp} {fp : Nat → List Addr} {σ : L2.St} {env : Env} {pv : Nat → V} {x : Plc} {u : V} {xs : List SV} {y : SV} {j : Nat} {Q : VK} (rs : RS X.K X.mg G σ env H fp pv) (at1 : AtP σ env H x u) (hx : x.2.2 = .own xs) (hj : xs[j]? = some y)
    (w : PostO X.K X.mg W σ G H fp pv (kE X.K X.mg Q H fp) (oE y (putP env x (xs.eraseIdx j)))) : ∃ a vs v, u = .ref a ∧ H a = some (.lst vs) ∧ vs.length = xs.length ∧ vs[j]? = some v ∧ Q v (upd H a (.lst (vs.eraseIdx j))) := by
  obtain ⟨t, v0, h1, h2, h3, h4⟩ := at1
  obtain ⟨i, ps, tx⟩ := x
  dsimp only at h1 h2 h3 h4 hx
  subst hx
  unfold putP at w
  cases z : VL.tree env i with
  | none => rw [z] at w; exact w.elim
  | some kt =>
    obtain ⟨kd, t'⟩ := kt
    have e := rd_tree z
    rw [h1] at e
    cases e
    rw [z] at w
    obtain ⟨a, vs, rr, eu, hH, of, n1, s1, mk⟩ := rs.mut (H0 := H) (fp0 := fp) (G0 := G) z h2 h3 h4
    have ndr := List.nodup_cons.mp n1
    obtain ⟨v, r1, r2, k1, k2, k3, k4, k5⟩ := of.take1 ndr.2 hj
    have n4 := List.nodup_append.mp k4
    have up : ∀ b ∈ r1 ++ r2, (upd H a (.lst (vs.eraseIdx j))) b = H b := fun b m => upd_ne fun q => ndr.1 (by rw [← q]; exact k5 b m)
    obtain ⟨fp', rs', st', q1, q2⟩ := mk (vs' := vs.eraseIdx j) (xs' := xs.eraseIdx j) (k3.mono (Same.refl _) fun b m => up b (List.mem_append_right _ m)) (List.nodup_cons.mpr ⟨fun m => ndr.1 (k5 a (List.mem_append_right _ m)), n4.2.1⟩) (fun b m => .inl (k5 b (List.mem_append_right _ m))) (Stp.refl rs.sub)
    refine ⟨a, vs, v, eu, hH, of.len, k1, ?_⟩
    refine w G _ fp' st' rs' v r1 (k2.mono (Same.refl _) fun b m => up b (List.mem_append_left _ m)) n4.1 fun b m => ?_
    have bi : b ∈ fp i := s1 b (List.mem_cons_of_mem _ (k5 b (List.mem_append_left _ m)))
    refine ⟨rs.out i b bi, fun l ml => ?_, .inr ⟨i, bi⟩⟩
    by_cases hl : l = i
    · subst hl
      rcases q2 b ml with q | q | q
      · exact ndr.1 (by rw [← q]; exact k5 b (List.mem_append_left _ m))
      · exact n4.2.2 b m b q rfl
      · exact q.2 (List.mem_cons_of_mem _ (k5 b (List.mem_append_left _ m)))
    · rw [q1 l hl] at ml
      exact hl (rs.dj l i b ml bi)
theorem ve_pop0 {f : Env → Res Plc} {j : Nat} {p : Pos} (ho : VPl X W o f) (hbase : attributeBase o "pop" X.env (eval o X.env) = eval o X.env := by rfl)
    (hfew : ((backTo cpos (starEach [.Constant (.int 0) j p] X.env)).all (fun x => !x.1) && (backToKw cpos (keywordEach [] X.env)).all (fun x => x.1.isSome) && decide (([.Constant (.int 0) j p] : List Expr).length + ([] : List Keyword).length + (if ([] : List Keyword).isEmpty then 0 else 1) < 30)) = true := by rfl)
    (hline : (apos.endLine == cpos.line) = true := by rfl) (hs : starEach [.Constant (.int 0) j p] X.env = (false, eval (.Constant (.int 0) j p) X.env) :: starEach [] X.env := by rfl) (hpl : (backTo cpos (starEach [] X.env)).any (·.1) = false := by rfl) :
    VE X W (.Call (.Attribute o "pop" apos) [.Constant (.int 0) j p] [] cpos) (vPop0 f) :=
  pe_imp (pe_bm PySem.F.plainAttrs_list PySem.F.slot_list_pop PySem.F.type_list_pop mt_popAt ho (pa_cons pe_int pa_nil hs) hbase hfew hline hs hpl) fun σ H Q ⟨G, env, fp, pv, rs, w⟩ => ⟨G, env, fp, pv, rs, PostO.lst rs w fun x xs hx w u G1 H1 e1 at1 => by
    have rs1 := rs.ext e1
    have w1 := w.step (Stp.of_ext (fp := fp) e1)
    refine ⟨at_list rs1 at1 hx, ?_⟩
    unfold pop1 at w1
    rw [hx] at w1
    cases xs with
    | nil => exact w1.elim
    | cons y ys =>
      have w2 : PostO X.K X.mg W σ G1 H1 fp pv (kE X.K X.mg Q H1 fp) (oE y (putP env x ((y :: ys).eraseIdx 0))) := PostO.imp w1 fun s e G' H' fp' k v r ow nd fr => k v r ow nd (Fresh.step (Stp.of_ext (fp := fp) e1) fr)
      obtain ⟨a, vs, v, eu, hH, hl, hv, q⟩ := pop_core (j := 0) rs1 at1 hx rfl w2
      refine ⟨a, vs, 0, 0, v, eu, rfl, hH, by decide, by decide, ?_, hv, q⟩
      rw [hl]
      unfold seqIndex?
      simp⟩
def popL (env : Env) (x : Plc) : Out SV := match x.2.2 with
  | .own xs => match xs[xs.length - 1]? with
    | some y => oE y (putP env x (xs.eraseIdx (xs.length - 1)))
    | none => .bad
  | _ => .bad
def vPopL (f : Env → Res Plc) : FE := fun env => oR ((f env).bind lstP) (popL env)
theorem ve_popL {f : Env → Res Plc} (ho : VPl X W o f) (hbase : attributeBase o "pop" X.env (eval o X.env) = eval o X.env := by rfl)
    (hline : (apos.endLine == cpos.line) = true := by rfl) : VE X W (.Call (.Attribute o "pop" apos) [] [] cpos) (vPopL f) :=
  pe_imp (pe_bm0 PySem.F.plainAttrs_list PySem.F.slot_list_pop PySem.F.type_list_pop mt_pop ho hbase hline) fun σ H Q ⟨G, env, fp, pv, rs, w⟩ => ⟨G, env, fp, pv, rs, PostO.lst rs w fun x xs hx w u G1 H1 e1 at1 => by
    have rs1 := rs.ext e1
    have w1 := w.step (Stp.of_ext (fp := fp) e1)
    refine ⟨at_list rs1 at1 hx, ?_⟩
    unfold popL at w1
    rw [hx] at w1
    dsimp only at w1
    cases hy : xs[xs.length - 1]? with
    | none => rw [hy] at w1; exact w1.elim
    | some y =>
      rw [hy] at w1
      have w2 : PostO X.K X.mg W σ G1 H1 fp pv (kE X.K X.mg Q H1 fp) (oE y (putP env x (xs.eraseIdx (xs.length - 1)))) := PostO.imp w1 fun s e G' H' fp' k v r ow nd fr => k v r ow nd (Fresh.step (Stp.of_ext (fp := fp) e1) fr)
      obtain ⟨a, vs, v, eu, hH, hl, hv, q⟩ := pop_core (j := xs.length - 1) rs1 at1 hx hy w2
      refine ⟨a, vs, v, eu, rfl, hH, by rw [hl]; exact hv, ?_⟩
      rw [← hl, List.eraseIdx_length_sub_one] at q
      exact q⟩

/-! ### insert -/
theorem Ows.insert {K : PySem.W.Frag} {mg : Str → Option Value} {G H : Hp} {w : V} {s : SV} (ow : Ow K mg G H w s []) : ∀ (n : Nat) {vs : List V} {xs : List SV} {r : List Addr}, Ows K mg G H vs xs r → Ows K mg G H (vs.take n ++ [w] ++ vs.drop n) (xs.take n ++ [s] ++ xs.drop n) r
  | 0, vs, xs, r, h => by
    have q : Ows K mg G H (w :: vs) (s :: xs) ([] ++ r) := .cons ow h
    exact q
  | n + 1, _, _, _, .nil => by
    have q : Ows K mg G H (w :: []) (s :: []) ([] ++ []) := .cons ow .nil
    exact q
  | n + 1, _, _, _, .cons h t => .cons h (Ows.insert ow n t)
noncomputable def ins1 (env : Env) (x : Plc) (y : FV) : PyData → Out SV
  | .int k => match x.2.2 with
    | .own xs => cIf (0 ≤ k ∧ k < 9223372036854775808 ∧ xs.length < 16777216) (oE (.f (.d .none)) (putP env x (xs.take k.toNat ++ [.f y] ++ xs.drop k.toNat))) .bad
    | _ => .bad
  | _ => .bad
noncomputable def vIns (f : Env → Res Plc) (g : FD) (h : FP) : FE := fun env => oR ((f env).bind lstP) fun x => oR (g env) fun k => oR (h env) fun y => ins1 env x y k
theorem ve_ins {f : Env → Res Plc} {g : FD} {h : FP} {e2 : Expr} (ho : VPl X W o f) (he : VD X W e g) (he2 : VP X W e2 h) (hbase : attributeBase o "insert" X.env (eval o X.env) = eval o X.env := by rfl)
    (hfew : ((backTo cpos (starEach [e, e2] X.env)).all (fun x => !x.1) && (backToKw cpos (keywordEach [] X.env)).all (fun x => x.1.isSome) && decide (([e, e2] : List Expr).length + ([] : List Keyword).length + (if ([] : List Keyword).isEmpty then 0 else 1) < 30)) = true := by rfl)
    (hline : (apos.endLine == cpos.line) = true := by rfl) (hs : starEach [e, e2] X.env = (false, eval e X.env) :: starEach [e2] X.env := by rfl) (hs2 : starEach [e2] X.env = (false, eval e2 X.env) :: starEach [] X.env := by rfl) (hpl : (backTo cpos (starEach [e2] X.env)).any (·.1) = false := by rfl) :
    VE X W (.Call (.Attribute o "insert" apos) [e, e2] [] cpos) (vIns f g h) :=
  pe_imp (pe_bm PySem.F.plainAttrs_list PySem.F.slot_list_insert PySem.F.type_list_insert mt_insert ho (pa_cons he (pa_cons he2 pa_nil hs2) hs) hbase hfew hline hs hpl) fun σ H Q ⟨G, env, fp, pv, rs, w⟩ => ⟨G, env, fp, pv, rs, PostO.lst rs w fun x xs hx w u G1 H1 e1 at1 => by
    have rs1 := rs.ext e1
    have w1 := w.step (Stp.of_ext (fp := fp) e1)
    refine ⟨at_list rs1 at1 hx, G1, env, fp, pv, rs1, PostO.ofR rs1 w1 fun k w2 v2 G2 H2 ex2 q2 => ?_⟩
    have rs2 := rs1.ext ex2
    have w3 := w2.step (Stp.of_ext (fp := fp) ex2)
    refine ⟨G2, env, fp, pv, rs2, PostO.ofR rs2 w3 fun y w4 v3 G3 H3 ex3 q3 => ?_⟩
    have rs3 := rs2.ext ex3
    have w5 := w4.step (Stp.of_ext (fp := fp) ex3)
    have at3 := (at1.same ex2.h).same ex3.h
    unfold ins1 at w5
    cases k with
    | int k =>
      dsimp only at w5
      rw [hx] at w5
      dsimp only at w5
      have ek := q2.int
      subst ek
      by_cases hc : 0 ≤ k ∧ k < 9223372036854775808 ∧ xs.length < 16777216
      · rw [cIf_pos hc] at w5
        obtain ⟨t, v0, h1, h2, h3, h4⟩ := at3
        obtain ⟨i, ps, tx⟩ := x
        dsimp only at h1 h2 h3 h4 hx
        subst hx
        unfold putP at w5
        cases z : VL.tree env i with
        | none => rw [z] at w5; exact w5.elim
        | some kt =>
          obtain ⟨kd, t'⟩ := kt
          have e := rd_tree z
          rw [h1] at e
          cases e
          rw [z] at w5
          obtain ⟨a, vs, rr, eu, hH, of, n1, s1, mk⟩ := rs3.mut (H0 := H3) (fp0 := fp) (G0 := G3) z h2 h3 h4
          have ndr := List.nodup_cons.mp n1
          obtain ⟨fp', rs', st', _, _⟩ := mk (vs' := vs.take k.toNat ++ [v3] ++ vs.drop k.toNat) (xs' := xs.take k.toNat ++ [.f y] ++ xs.drop k.toNat) ((of.mono (Same.refl _) fun b m => upd_ne fun q => ndr.1 (by rw [← q]; exact m)).insert (.f q3) k.toNat) n1 (fun b m => .inl m) (Stp.refl rs3.sub)
          refine ⟨a, vs, k, v3, eu, rfl, hH, by rw [of.len, sl_eq]; exact hc.2.2, hc.1, by have := hc.2.1; omega, ?_⟩
          exact w5 G3 _ fp' st' rs' .non [] (.f (.d .non)) .nil fun b m => by cases m
      · rw [cIf_neg hc] at w5; exact w5.elim
    | none => exact w5.elim
    | bool _ => exact w5.elim
    | str _ => exact w5.elim
    | list _ => exact w5.elim
    | tuple _ => exact w5.elim
    | dict _ => exact w5.elim⟩

/-! ### o[i] = e -/
def setI1 (env : Env) (x : Plc) (s : SV) : PyData → Flow
  | .int k => match x.2.2 with
    | .own xs => match ixN xs.length k with
      | some j => match putP env x (xs.set j s) with
        | some e => .nx e
        | none => .bad
      | none => .bad
    | _ => .bad
  | _ => .bad
def vSetI (f : Env → Res Plc) (g : FD) (h : FO) : ST := fun env => ofR (h env) env fun s => ofR ((f env).bind lstP) env fun x => ofR (g env) env fun k => setI1 env x s k
theorem Post.ofLst {K : PySem.W.Frag} {mg : Str → Option Value} {G H : Hp} {fp : Nat → List Addr} {σ : L2.St} {env : Env} {pv : Nat → V} {W : WX} {D : Ends} {r : Res Plc} {g : Plc → Flow} {j : Plc → Prop} (rs : RS K mg G σ env H fp pv) (h : Post K mg W D G H fp pv (VL.ofR (r.bind lstP) env g))
    (q : ∀ x xs, x.2.2 = .own xs → Post K mg W D G H fp pv (g x) → j x) : PostR mg W σ H j r := by
  cases r with
  | ok x =>
    have h' : Post K mg W D G H fp pv (VL.ofR (lstP x) env g) := h
    unfold lstP at h'
    cases z : x.2.2 with
    | own xs => rw [z] at h'; exact q x xs z h'
    | f _ => rw [z] at h'; exact h'.elim
    | otup _ => rw [z] at h'; exact h'.elim
    | obj _ _ => rw [z] at h'; exact h'.elim
  | err c => exact fun C H2 m s => h C G σ H2 fp m (Stp.of_ext ⟨Same.refl _, s, rs.sub.trans s, fun _ _ e => .inl e⟩) (rs.same s)
  | bad => exact h
theorem vs_setI {f : Env → Res Plc} {g : FD} {h : FO} {i : Expr} {p : Pos} (ho : VPl X W o f) (hi : VD X W i g) (he : VO X W e h)
    (ha : ∀ v, assign (.Subscript o i p) X.env v = (do
      let ov ← holding [v] (eval o X.env)
      let iv ← holding [v, ov] (eval i X.env)
      standAt p
      holding [v, ov, iv] (setItem ov iv v)
      release [v, ov, iv] []) := by intro _; rfl)
    (hs : swapsWithSole [.Subscript o i p] e pos.line X.env = pure false) (hw : swappedStores [.Subscript o i p] e X.env = pure none) (h1 : (assignEach [.Subscript o i p] X.env).map (·.2) = [assign (.Subscript o i p) X.env]) : VS X W (.Assign [.Subscript o i p] e pos) (vSetI f g h) :=
  ps_imp (ps_asg he (pg_sub ho hi set_list ha) hs hw h1) fun D σ H ⟨G, env, fp, pv, rs, w⟩ => ⟨G, env, fp, pv, rs, Post.ofR rs w fun s w v G1 H1 r e1 ow nd fr => by
    have rs1 := rs.ext e1
    refine ⟨G1, env, fp, pv, rs1, PostR.imp (Post.ofLst (j := fun x => ∃ xs, x.2.2 = .own xs ∧ Post X.K X.mg W D G H fp pv (VL.ofR (g env) env fun k => setI1 env x s k)) rs w fun x xs hx w => ⟨xs, hx, w⟩) e1.h fun x ⟨xs, hx, w⟩ u G2 H2 e2 at2 => ?_⟩
    have rs2 := rs1.ext e2
    refine ⟨G2, env, fp, pv, rs2, PostR.imp (Post.ofR (j := fun k => Post X.K X.mg W D G H fp pv (setI1 env x s k)) rs w fun k w => w) (e1.trans e2).h fun k w5 kv G3 H3 e3 q3 => ?_⟩
    have rs3 := rs2.ext e3
    have at3 := at2.same e3.h
    have e23 := e2.trans e3
    have ow3 : Ow X.K X.mg G3 H3 v s r := ow.same e23.g e23.h
    have fr3 : ∀ a ∈ r, G3 a = none ∧ ∀ j, a ∉ fp j := fun a m => by
      refine ⟨?_, rs.notin (fr a m).1⟩
      cases q : G3 a with
      | none => rfl
      | some ob =>
        rcases e23.n a ob q with z | z
        · rw [(fr a m).2] at z; cases z
        · obtain ⟨ob2, z2⟩ := ow.there a m
          rw [z2] at z; cases z
    unfold setI1 at w5
    cases k with
    | int k =>
      dsimp only at w5
      rw [hx] at w5
      dsimp only at w5
      have ek := q3.int
      subst ek
      cases hj : ixN xs.length k with
      | none => rw [hj] at w5; exact w5.elim
      | some j =>
        rw [hj] at w5
        dsimp only at w5
        obtain ⟨t, v0, h1, h2, h3, h4⟩ := at3
        obtain ⟨i, ps, tx⟩ := x
        dsimp only at h1 h2 h3 h4 hx
        subst hx
        unfold putP at w5
        cases z : VL.tree env i with
        | none => rw [z] at w5; exact w5.elim
        | some kt =>
          obtain ⟨kd, t'⟩ := kt
          have e := rd_tree z
          rw [h1] at e
          cases e
          rw [z] at w5
          obtain ⟨a, vs, rr, eu, hH, of, n1, s1, mk⟩ := rs3.mut (H0 := H) (fp0 := fp) (G0 := G) z h2 h3 h4
          have ndr := List.nodup_cons.mp n1
          have jl : j < xs.length := (ixN_seq hj).2.1
          obtain ⟨w0, r1, k1, k2, k3, k4, k5⟩ := of.exch ndr.2 (List.getElem?_eq_getElem jl)
          have ar : a ∉ r := fun m => (fr3 a m).2 i (s1 a List.mem_cons_self)
          obtain ⟨r', o', n', q'⟩ := k5 (w' := v) (G' := G3) (H' := upd H3 a (.lst (vs.set j v))) (s' := s) (r1' := r) ⟨Same.refl _, fun b m _ => upd_ne fun q => ndr.1 (by rw [← q]; exact m), ow3.mono (Same.refl _) fun b m => upd_ne fun q => ar (by rw [← q]; exact m), nd, fun b m => .inr fun m2 => (fr3 b m).2 i (s1 b (List.mem_cons_of_mem _ m2))⟩
          have sub' : ∀ b ∈ r', b ∈ rr ∨ b ∈ r := fun b m => by
            rcases q' b m with q | q
            · exact .inr q
            · exact .inl q.1
          obtain ⟨fp', rs', st', _, _⟩ := mk o' (List.nodup_cons.mpr ⟨fun m => by
            rcases sub' a m with q | q
            · exact ndr.1 q
            · exact ar q, n'⟩) (fun b m => by
            rcases sub' b m with q | q
            · exact .inl q
            · exact .inr ⟨(fr3 b q).2, (fr3 b q).1, .inl (fr b q).1⟩) (Stp.of_ext (fp := fp) (e1.trans e23))
          refine ⟨a, vs, k, j, eu, rfl, hH, by rw [of.len]; exact hj, ?_⟩
          exact w5 G3 σ _ fp' st' rs'
    | none => exact w5.elim
    | bool _ => exact w5.elim
    | str _ => exact w5.elim
    | list _ => exact w5.elim
    | tuple _ => exact w5.elim
    | dict _ => exact w5.elim⟩
end
end VL

set_option Elab.async false
set_option linter.all false
set_option maxRecDepth 100000
set_option maxHeartbeats 4000000
namespace VL
open PySem PySem.Spec PyProof.Rows L2

/-! ### arguments: frozen, by reference, only seen -/
inductive AV where
  | fz (x : FV)
  | ref (i : Nat)
  | see (i : Nat)
def avOk (K : PySem.W.Frag) (mg : Str → Option Value) (G : Hp) (σ : L2.St) (v : V) : AV → Prop
  | .fz x => Fq K mg G v x
  | .ref i => σ[i]? = some (some v)
  | .see i => σ[i]? = some (some v)
inductive AVs (K : PySem.W.Frag) (mg : Str → Option Value) (G : Hp) (σ : L2.St) : List V → List AV → Prop
  | nil : AVs K mg G σ [] []
  | cons {v : V} {vs : List V} {x : AV} {xs : List AV} : avOk K mg G σ v x → AVs K mg G σ vs xs → AVs K mg G σ (v :: vs) (x :: xs)
def slot1 (e : Env) : AV → Option Slot
  | .fz x => some (.va (.f x))
  | .ref i => (tree e i).map fun k => .rf k.2
  | .see i => (rd e i).map .vw
def slotsOf (e : Env) : List AV → Option (List Slot)
  | [] => some []
  | x :: xs => match slot1 e x, slotsOf e xs with
    | some s, some r => some (s :: r)
    | _, _ => none
def refsOf : List AV → List Nat
  | [] => []
  | .ref i :: r => i :: refsOf r
  | _ :: r => refsOf r
def idxRef : List AV → Nat → Option Nat
  | [], _ => none
  | .ref k :: r, i => if k = i then some 0 else (idxRef r i).map (· + 1)
  | _ :: r, i => (idxRef r i).map (· + 1)
def back1 (sl : Slot) : Option Slot → Slot
  | some (.rf s) => match sl with
    | .va _ => .va s
    | .rf _ => .rf s
    | _ => .no
  | _ => .no
def backE (env : Env) (xs : List AV) (as : List Slot) : Env := env.mapIdx fun i sl => match idxRef xs i with
  | none => dv sl
  | some j => back1 sl as[j]?
section
variable {K : PySem.W.Frag} {mg : Str → Option Value} {G H G' H' : Hp} {fp fp' : Nat → List Addr} {σ : L2.St} {env : Env} {pv : Nat → V}
theorem AVs.mono {vs : List V} {xs : List AV} (g : Same G G') (h : AVs K mg G σ vs xs) : AVs K mg G' σ vs xs := by
  induction h with
  | nil => exact .nil
  | @cons v vs x xs h t ih =>
    refine .cons ?_ ih
    cases x with
    | fz x => exact Fq.mono g h
    | ref i => exact h
    | see i => exact h
theorem AVs.length {vs : List V} {xs : List AV} (h : AVs K mg G σ vs xs) : vs.length = xs.length := by
  induction h with
  | nil => rfl
  | cons _ _ ih => simp [ih]
theorem AVs.get : ∀ {vs : List V} {xs : List AV} {i : Nat} {x : AV}, AVs K mg G σ vs xs → xs[i]? = some x → ∃ v, vs[i]? = some v ∧ avOk K mg G σ v x
  | _, _, _, _, .nil, e => by simp at e
  | _, _, 0, _, .cons h t, e => by simp at e; subst e; exact ⟨_, rfl, h⟩
  | _, _, i + 1, x, .cons h t, e => by simpa using AVs.get (i := i) t (by simpa using e)
theorem slotsOf_get {e : Env} : ∀ {xs : List AV} {sl : List Slot}, slotsOf e xs = some sl → sl.length = xs.length ∧ ∀ (j : Nat) (s : Slot), sl[j]? = some s → ∃ x, xs[j]? = some x ∧ slot1 e x = some s
  | [], sl, h => by
    cases (show some [] = some sl from h)
    exact ⟨rfl, fun j s e => by simp at e⟩
  | x :: xs, sl, h => by
    unfold slotsOf at h
    split at h
    · rename_i s r h1 h2
      cases h
      obtain ⟨l, k⟩ := slotsOf_get h2
      refine ⟨by simp [l], fun j t e => ?_⟩
      cases j with
      | zero =>
        simp at e
        subst e
        exact ⟨x, rfl, h1⟩
      | succ j => simpa using k j t (by simpa using e)
    · cases h
theorem idxRef_some : ∀ {xs : List AV} {i j : Nat}, idxRef xs i = some j → xs[j]? = some (.ref i)
  | [], _, _, h => by cases h
  | .ref k :: r, i, j, h => by
    unfold idxRef at h
    by_cases q : k = i
    · rw [if_pos q] at h
      cases h
      rw [q]; rfl
    · rw [if_neg q] at h
      cases z : idxRef r i with
      | none => rw [z] at h; cases h
      | some m => rw [z] at h; cases h; exact (show r[m]? = some (.ref i) from idxRef_some z)
  | .fz _ :: r, i, j, h => by
    have h' : (idxRef r i).map (· + 1) = some j := h
    cases z : idxRef r i with
    | none => rw [z] at h'; cases h'
    | some m => rw [z] at h'; cases h'; exact (show r[m]? = some (.ref i) from idxRef_some z)
  | .see _ :: r, i, j, h => by
    have h' : (idxRef r i).map (· + 1) = some j := h
    cases z : idxRef r i with
    | none => rw [z] at h'; cases h'
    | some m => rw [z] at h'; cases h'; exact (show r[m]? = some (.ref i) from idxRef_some z)
theorem idxRef_none : ∀ {xs : List AV} {i j : Nat}, idxRef xs i = none → xs[j]? ≠ some (.ref i)
  | [], _, _, _ => by simp
  | .ref k :: r, i, j, h => by
    unfold idxRef at h
    by_cases q : k = i
    · rw [if_pos q] at h; cases h
    · rw [if_neg q] at h
      have z : idxRef r i = none := by simpa using h
      cases j with
      | zero => intro e; simp at e; exact q e
      | succ j => simpa using idxRef_none (j := j) z
  | .fz _ :: r, i, j, h => by
    have z : idxRef r i = none := by simpa [idxRef] using h
    cases j with
    | zero => simp
    | succ j => simpa using idxRef_none (j := j) z
  | .see _ :: r, i, j, h => by
    have z : idxRef r i = none := by simpa [idxRef] using h
    cases j with
    | zero => simp
    | succ j => simpa using idxRef_none (j := j) z
theorem refs_at : ∀ {xs : List AV} {i j k : Nat}, (refsOf xs).Nodup → xs[j]? = some (.ref i) → xs[k]? = some (.ref i) → j = k
  | [], _, _, _, _, h, _ => by simp at h
  | .ref m :: r, i, j, k, nd, h1, h2 => by
    have nd' := List.nodup_cons.mp (show (m :: refsOf r).Nodup from nd)
    have inR : ∀ {r : List AV} {l : Nat}, r[l]? = some (.ref i) → i ∈ refsOf r := by
      intro r
      induction r with
      | nil => intro l h; simp at h
      | cons x r ih =>
        intro l h
        cases l with
        | zero =>
          have e : x = .ref i := by simpa using h
          subst e
          exact List.mem_cons_self
        | succ l =>
          have q := ih (l := l) (by simpa using h)
          cases x with
          | ref _ => exact List.mem_cons_of_mem _ q
          | fz _ => exact q
          | see _ => exact q
    cases j with
    | zero =>
      have e : m = i := by simpa using h1
      cases k with
      | zero => rfl
      | succ k => exact absurd (inR (l := k) (by simpa using h2)) (by rw [← e]; exact nd'.1)
    | succ j =>
      cases k with
      | zero =>
        have e : m = i := by simpa using h2
        exact absurd (inR (l := j) (by simpa using h1)) (by rw [← e]; exact nd'.1)
      | succ k => exact congrArg (· + 1) (refs_at nd'.2 (by simpa using h1) (by simpa using h2))
  | .fz _ :: r, i, j, k, nd, h1, h2 => by
    cases j with
    | zero => simp at h1
    | succ j =>
      cases k with
      | zero => simp at h2
      | succ k => exact congrArg (· + 1) (refs_at (xs := r) nd (by simpa using h1) (by simpa using h2))
  | .see _ :: r, i, j, k, nd, h1, h2 => by
    cases j with
    | zero => simp at h1
    | succ j =>
      cases k with
      | zero => simp at h2
      | succ k => exact congrArg (· + 1) (refs_at (xs := r) nd (by simpa using h1) (by simpa using h2))
/-- the callee's footprints -/
def fpC (xs : List AV) (fp : Nat → List Addr) : Nat → List Addr := fun j => match xs[j]? with
  | some (.ref i) => fp i
  | _ => []
theorem fpC_mem {xs : List AV} {j : Nat} {a : Addr} (m : a ∈ fpC xs fp j) : ∃ i, xs[j]? = some (.ref i) ∧ a ∈ fp i := by
  unfold fpC at m
  cases z : xs[j]? with
  | none => rw [z] at m; cases m
  | some x =>
    rw [z] at m
    cases x with
    | ref i => exact ⟨i, rfl, m⟩
    | fz _ => cases m
    | see _ => cases m
theorem fpC_ref {xs : List AV} {i j : Nat} (h : xs[j]? = some (.ref i)) : fpC xs fp j = fp i := by
  unfold fpC; rw [h]
theorem RS.call {vs : List V} {xs : List AV} {sl : List Slot} (rs : RS K mg G σ env H fp pv) (av : AVs K mg G σ vs xs) (hs : slotsOf env xs = some sl) (nd : (refsOf xs).Nodup) : RS K mg G (vs.map some) sl H (fpC xs fp) (fun j => vs.getD j .non) where
  len := by rw [List.length_map, av.length]; exact (slotsOf_get hs).1
  rel := fun j s e => by
    obtain ⟨x, hx, h1⟩ := (slotsOf_get hs).2 j s e
    obtain ⟨v, hv, ok⟩ := av.get hx
    have hσ : (vs.map some)[j]? = some (some v) := by rw [List.getElem?_map, hv]; rfl
    cases x with
    | fz x =>
      cases h1
      have z : fpC xs fp j = [] := by unfold fpC; rw [hx]
      exact ⟨v, hσ, by rw [z]; exact .f ok⟩
    | ref i =>
      rw [fpC_ref hx]
      have h1' : (VL.tree env i).map (fun k => Slot.rf k.2) = some s := h1
      cases zt : VL.tree env i with
      | none => rw [zt] at h1'; cases h1'
      | some kt =>
        rw [zt] at h1'
        cases h1'
        obtain ⟨_, u, hu, _, ow⟩ := rs.tree zt
        have hok : σ[i]? = some (some v) := ok
        rw [hu] at hok
        cases hok
        have e1 : vs.getD j .non = v := by rw [List.getD_eq_getElem?_getD, hv]; rfl
        exact ⟨by rw [e1]; exact hσ, by rw [e1]; exact ow⟩
    | see i =>
      have z : fpC xs fp j = [] := by unfold fpC; rw [hx]
      have h1' : (VL.rd env i).map Slot.vw = some s := h1
      cases zt : VL.rd env i with
      | none => rw [zt] at h1'; cases h1'
      | some t =>
        rw [zt] at h1'
        cases h1'
        obtain ⟨u, r, hu, ow⟩ := rs.rd zt
        have hok : σ[i]? = some (some v) := ok
        rw [hu] at hok
        cases hok
        exact ⟨z, _, r, hσ, ow⟩
  nil := fun j hj => by
    unfold fpC
    rw [List.getElem?_eq_none (by rw [← (slotsOf_get hs).1]; exact hj)]
  sub := rs.sub
  out := fun j a m => by
    obtain ⟨i, _, m⟩ := fpC_mem m
    exact rs.out i a m
  nd := fun j => by
    unfold fpC
    cases xs[j]? with
    | none => exact .nil
    | some x =>
      cases x with
      | ref i => exact rs.nd i
      | fz _ => exact .nil
      | see _ => exact .nil
  dj := fun j k a m1 m2 => by
    obtain ⟨i1, h1, m1⟩ := fpC_mem m1
    obtain ⟨i2, h2, m2⟩ := fpC_mem m2
    have e := rs.dj i1 i2 a m1 m2
    subst e
    exact refs_at nd h1 h2
/-- the caller's footprints behind the call -/
def fpB (env : Env) (xs : List AV) (as : List Slot) (fp fp' : Nat → List Addr) : Nat → List Addr := fun i => match idxRef xs i with
  | none => fp i
  | some j => match as[j]?, env[i]? with
    | some (.rf _), some (.va _) => fp' j
    | some (.rf _), some (.rf _) => fp' j
    | _, _ => []
theorem fpB_none {as : List Slot} {xs : List AV} {i : Nat} (h : idxRef xs i = none) : fpB env xs as fp fp' i = fp i := by
  unfold fpB; rw [h]
theorem fpB_sub {as : List Slot} {xs : List AV} {i j : Nat} (h : idxRef xs i = some j) {a : Addr} (m : a ∈ fpB env xs as fp fp' i) : a ∈ fp' j := by
  unfold fpB at m
  rw [h] at m
  dsimp only at m
  split at m
  · exact m
  · exact m
  · cases m
theorem RS.backE {vs : List V} {xs : List AV} {as : List Slot} (rs : RS K mg G σ env H fp pv) (av : AVs K mg G σ vs xs) (nd : (refsOf xs).Nodup) (st : Stp G H (fpC xs fp) G' H' fp') (rs' : RS K mg G' (vs.map some) as H' fp' (fun j => vs.getD j .non)) :
    RS K mg G' σ (VL.backE env xs as) H' (fpB env xs as fp fp') pv ∧ Stp G H fp G' H' (fpB env xs as fp fp') ∧ ∀ r : List Addr, (∀ a ∈ r, (∀ j, a ∉ fp' j) ∧ (H a = none ∨ ∃ j, a ∈ fpC xs fp j)) → ∀ a ∈ r, (∀ i, a ∉ fpB env xs as fp fp' i) ∧ (H a = none ∨ ∃ j, a ∈ fp j) := by
  have there : ∀ i a, a ∈ fp i → H a ≠ none := fun i a m z => by
    obtain ⟨o, q⟩ := rs.there i a m
    rw [q] at z; cases z
  have outC : ∀ i a, idxRef xs i = none → a ∈ fp i → ∀ j, a ∉ fpC xs fp j := fun i a hi m j m2 => by
    obtain ⟨i2, h2, m2⟩ := fpC_mem m2
    have e := rs.dj i i2 a m m2
    subst e
    exact idxRef_none hi h2
  have keep : ∀ i a, idxRef xs i = none → a ∈ fp i → H' a = H a := fun i a hi m => by
    obtain ⟨o, q⟩ := rs.there i a m
    rw [q]
    exact st.fr a o q (outC i a hi m)
  have lenE : (VL.backE env xs as).length = env.length := by unfold VL.backE; exact List.length_mapIdx
  have getE : ∀ i s, (VL.backE env xs as)[i]? = some s → ∃ sl, env[i]? = some sl ∧ s = (match idxRef xs i with | none => dv sl | some j => back1 sl as[j]?) := fun i s e => by
    unfold VL.backE at e
    rw [List.getElem?_mapIdx] at e
    cases z : env[i]? with
    | none => rw [z] at e; cases e
    | some sl => rw [z] at e; exact ⟨sl, rfl, (Option.some.inj e).symm⟩
  have apart : ∀ i a j, idxRef xs i = none → a ∈ fp i → a ∉ fp' j := fun i a j hi m m2 => by
    rcases st.f j a m2 with q | ⟨k, q⟩
    · exact there i a m q
    · exact outC i a hi m k q
  refine ⟨⟨?_, fun i s e => ?_, fun i hi => ?_, rs'.sub, fun i a m => ?_, fun i => ?_, fun i k a m1 m2 => ?_⟩, ⟨st.g, fun b o h q => ?_, fun a o q => ?_, fun i a m => ?_, st.trk, st.fld⟩, fun r hr a m => ?_⟩
  · rw [lenE]; exact rs.len
  · obtain ⟨sl, hsl, es⟩ := getE i s e
    have r := rs.rel i sl hsl
    cases hi : idxRef xs i with
    | none =>
      rw [hi] at es
      rw [fpB_none hi]
      subst es
      cases sl with
      | no => exact r
      | va t =>
        obtain ⟨v, e1, ow⟩ := r
        exact ⟨v, e1, ow.mono st.g (keep i · hi)⟩
      | rf t =>
        obtain ⟨e1, ow⟩ := r
        exact ⟨e1, ow.mono st.g (keep i · hi)⟩
      | vw t => exact r.1
    | some j =>
      rw [hi] at es
      dsimp only at es
      have hx := idxRef_some hi
      obtain ⟨v, hv, ok⟩ := av.get hx
      have hok : σ[i]? = some (some v) := ok
      have e1 : vs.getD j .non = v := by rw [List.getD_eq_getElem?_getD, hv]; rfl
      cases ha : as[j]? with
      | none =>
        rw [ha] at es
        subst es
        show fpB env xs as fp fp' i = []
        unfold fpB; rw [hi]; dsimp only; rw [ha]
      | some u =>
        rw [ha] at es
        cases u with
        | rf t =>
          have r' := rs'.rel j _ ha
          rw [e1] at r'
          obtain ⟨_, ow'⟩ := r'
          cases sl with
          | va s0 =>
            have z : fpB env xs as fp fp' i = fp' j := by unfold fpB; rw [hi]; dsimp only; rw [ha, hsl]
            rw [z]
            subst es
            exact ⟨v, hok, ow'⟩
          | rf s0 =>
            have z : fpB env xs as fp fp' i = fp' j := by unfold fpB; rw [hi]; dsimp only; rw [ha, hsl]
            rw [z]
            subst es
            obtain ⟨e2, _⟩ := r
            rw [hok] at e2
            cases e2
            exact ⟨hok, ow'⟩
          | no =>
            subst es
            show fpB env xs as fp fp' i = []
            unfold fpB; rw [hi]; dsimp only; rw [ha, hsl]
          | vw s0 =>
            subst es
            show fpB env xs as fp fp' i = []
            unfold fpB; rw [hi]; dsimp only; rw [ha, hsl]
        | no =>
          subst es
          show fpB env xs as fp fp' i = []
          unfold fpB; rw [hi]; dsimp only; rw [ha]
        | va _ =>
          subst es
          show fpB env xs as fp fp' i = []
          unfold fpB; rw [hi]; dsimp only; rw [ha]
        | vw _ =>
          subst es
          show fpB env xs as fp fp' i = []
          unfold fpB; rw [hi]; dsimp only; rw [ha]
  · rw [lenE] at hi
    have hn : env[i]? = none := List.getElem?_eq_none hi
    cases z : idxRef xs i with
    | none => rw [fpB_none z]; exact rs.nil i hi
    | some j =>
      unfold fpB
      rw [z]
      dsimp only
      rw [hn]
      cases as[j]? with
      | none => rfl
      | some u => cases u <;> rfl
  · cases z : idxRef xs i with
    | none =>
      rw [fpB_none z] at m
      cases q : G' a with
      | none => rfl
      | some o =>
        rcases st.n a o q with k | k | ⟨j, k⟩
        · rw [rs.out i a m] at k; cases k
        · exact absurd k (there i a m)
        · exact absurd k (outC i a z m j)
    | some j => exact rs'.out j a (fpB_sub z m)
  · cases z : idxRef xs i with
    | none => rw [fpB_none z]; exact rs.nd i
    | some j =>
      unfold fpB
      rw [z]
      dsimp only
      split
      · exact rs'.nd j
      · exact rs'.nd j
      · exact .nil
  · cases z1 : idxRef xs i with
    | none =>
      rw [fpB_none z1] at m1
      cases z2 : idxRef xs k with
      | none => rw [fpB_none z2] at m2; exact rs.dj i k a m1 m2
      | some j => exact absurd (fpB_sub z2 m2) (apart i a j z1 m1)
    | some j1 =>
      have p1 := fpB_sub z1 m1
      cases z2 : idxRef xs k with
      | none => rw [fpB_none z2] at m2; exact absurd p1 (apart k a j1 z2 m2)
      | some j2 =>
        have e := rs'.dj j1 j2 a p1 (fpB_sub z2 m2)
        subst e
        have q := (idxRef_some z1).symm.trans (idxRef_some z2)
        cases q
        rfl
  · exact st.fr b o h fun j m => by
      obtain ⟨i, _, m⟩ := fpC_mem m
      exact q i m
  · rcases st.n a o q with k | k | ⟨j, k⟩
    · exact .inl k
    · exact .inr (.inl k)
    · obtain ⟨i, _, k⟩ := fpC_mem k
      exact .inr (.inr ⟨i, k⟩)
  · cases z : idxRef xs i with
    | none => rw [fpB_none z] at m; exact .inr ⟨i, m⟩
    | some j =>
      rcases st.f j a (fpB_sub z m) with q | ⟨k, q⟩
      · exact .inl q
      · obtain ⟨i2, _, q⟩ := fpC_mem q
        exact .inr ⟨i2, q⟩
  · obtain ⟨h1, h2⟩ := hr a m
    have h3 : H a = none ∨ ∃ j, a ∈ fp j := h2.imp id fun ⟨j, q⟩ => by
      obtain ⟨i, _, q⟩ := fpC_mem q
      exact ⟨i, q⟩
    refine ⟨fun i mi => ?_, h3⟩
    cases z : idxRef xs i with
    | none =>
      rw [fpB_none z] at mi
      rcases h2 with q | ⟨j, q⟩
      · exact there i a mi q
      · exact outC i a z mi j q
    | some j => exact h1 j (fpB_sub z mi)
/-- without references nothing is changed -/
theorem fpC_nil {xs : List AV} (h : refsOf xs = []) : fpC xs fp = fun _ => [] := by
  funext j
  unfold fpC
  cases z : xs[j]? with
  | none => rfl
  | some x =>
    cases x with
    | ref i =>
      exfalso
      have : i ∈ refsOf xs := by
        clear h
        induction xs generalizing j with
        | nil => simp at z
        | cons y ys ih =>
          cases j with
          | zero =>
            have e : y = .ref i := by simpa using z
            subst e
            exact List.mem_cons_self
          | succ j =>
            have q := ih j (by simpa using z)
            cases y with
            | ref _ => exact List.mem_cons_of_mem _ q
            | fz _ => exact q
            | see _ => exact q
      rw [h] at this
      cases this
    | fz _ => rfl
    | see _ => rfl
end
end VL

set_option Elab.async false
set_option linter.all false
set_option maxRecDepth 100000
set_option maxHeartbeats 4000000
namespace VL
open PySem PySem.Spec PyProof.Rows L2

section
variable {X : Cx} {W : WX} {a b c e o : Expr} {es : List Expr} {pos apos cpos : Pos} {st : Stmt} {sts : List Stmt}
/-! ### argument lists -/
def tAP (K : PySem.W.Frag) (mg : Str → Option Value) (W : WX) (n : Nat) (f : Env → Res (List AV)) : TA := fun σ H Q => ∃ G env fp pv, RS K mg G σ env H fp pv ∧
  PostR mg W σ H (fun xs => ∀ vs G' H', Ext G H G' H' → AVs K mg G' σ vs xs → xs.length = n → Q vs H') (f env)
abbrev VAP (X : Cx) (W : WX) (n : Nat) (es : List Expr) (f : Env → Res (List AV)) : Prop := PA X es (tAP X.K X.mg W n f)
def pN : Env → Res (List AV) := fun _ => .ok []
def pF (f : FP) (g : Env → Res (List AV)) : Env → Res (List AV) := fun env => (f env).bind fun x => (g env).bind fun xs => .ok (.fz x :: xs)
def pS (i : Nat) (g : Env → Res (List AV)) : Env → Res (List AV) := fun env => match rd env i with
  | some _ => (g env).bind fun xs => .ok (.see i :: xs)
  | none => .bad
theorem vap_nil : VAP X W 0 [] pN := pa_imp pa_nil fun σ H Q ⟨G, env, fp, pv, rs, w⟩ => w [] G H (Ext.refl rs.sub) .nil rfl
theorem vap_f {n : Nat} {f : FP} {g : Env → Res (List AV)} (ha : VP X W e f) (hr : VAP X W n es g) (hs : starEach (e :: es) X.env = (false, eval e X.env) :: starEach es X.env) : VAP X W (n + 1) (e :: es) (pF f g) :=
  pa_imp (pa_cons ha hr hs) fun σ H Q ⟨G, env, fp, pv, rs, w⟩ => ⟨G, env, fp, pv, rs, by
    have w' := PostR.seq (k := fun x => PostR X.mg W σ H _ ((g env).bind _)) w fun y w => w
    exact PostR.imp w' (Same.refl _) fun x w v G1 H1 e1 q1 => ⟨G1, env, fp, pv, rs.ext e1, PostR.imp (PostR.seq (k := fun y => PostR X.mg W σ H _ (Res.ok (.fz x :: y))) w fun y w => w) e1.h fun xs w vs G2 H2 e2 q2 hl => w (v :: vs) G2 H2 (e1.trans e2) (.cons (Fq.mono e2.g q1) q2) (by simp [hl])⟩⟩
theorem vap_s {n i : Nat} {g : Env → Res (List AV)} (ha : PE X e (tVar i)) (hr : VAP X W n es g) (hs : starEach (e :: es) X.env = (false, eval e X.env) :: starEach es X.env) : VAP X W (n + 1) (e :: es) (pS i g) :=
  pa_imp (pa_cons ha hr hs) fun σ H Q ⟨G, env, fp, pv, rs, w⟩ => by
    unfold pS at w
    cases z : rd env i with
    | none => rw [z] at w; exact w.elim
    | some s =>
      rw [z] at w
      obtain ⟨v, r, hv, _⟩ := rs.rd z
      exact ⟨v, hv, G, env, fp, pv, rs, PostR.imp (PostR.seq (k := fun y => PostR X.mg W σ H _ (Res.ok (.see i :: y))) w fun y w => w) (Same.refl _) fun xs w vs G2 H2 e2 q2 hl => w (v :: vs) G2 H2 e2 (.cons hv q2) (by simp [hl])⟩
/-- with effects -/
def tAX (K : PySem.W.Frag) (mg : Str → Option Value) (W : WX) (n : Nat) (f : Env → Out (List AV)) : TA := fun σ H Q => ∃ G env fp pv, RS K mg G σ env H fp pv ∧
  PostO K mg W σ G H fp pv (fun xs _ G' H' _ => ∀ vs, AVs K mg G' σ vs xs → xs.length = n → Q vs H') (f env)
abbrev VAX (X : Cx) (W : WX) (n : Nat) (es : List Expr) (f : Env → Out (List AV)) : Prop := PA X es (tAX X.K X.mg W n f)
def xP (f : Env → Res (List AV)) : Env → Out (List AV) := fun env => oR (f env) fun xs => .ok xs env
def xF (f : FP) (g : Env → Out (List AV)) : Env → Out (List AV) := fun env => oR (f env) fun x => (g env).bind fun xs e => .ok (.fz x :: xs) e
def xR (i : Nat) (g : Env → Out (List AV)) : Env → Out (List AV) := fun env => match rd env i with
  | some _ => (g env).bind fun xs e => .ok (.ref i :: xs) e
  | none => .bad
def xE1 (g : Env → Out (List AV)) (s : SV) (e : Env) : Out (List AV) := match s with
  | .f x => (g e).bind fun xs e => .ok (.fz x :: xs) e
  | _ => .bad
def xE (f : FE) (g : Env → Out (List AV)) : Env → Out (List AV) := fun env => (f env).bind (xE1 g)
theorem vax_p {n : Nat} {f : Env → Res (List AV)} (h : VAP X W n es f) : VAX X W n es (xP f) := pa_imp h fun σ H Q ⟨G, env, fp, pv, rs, w⟩ => ⟨G, env, fp, pv, rs, PostO.ofR rs w fun xs w vs G1 H1 e1 av hl =>
  w G1 H1 fp (Stp.of_ext e1) (rs.ext e1) vs av hl⟩
theorem PostO.impS {α : Type} {K : PySem.W.Frag} {mg : Str → Option Value} {G H : Hp} {fp : Nat → List Addr} {σ : L2.St} {pv : Nat → V} {W : WX} {k k' : α → Env → Hp → Hp → (Nat → List Addr) → Prop} {o : Out α} (h : PostO K mg W σ G H fp pv k o) (q : ∀ a e G' H' fp', Stp G H fp G' H' fp' → RS K mg G' σ e H' fp' pv → k a e G' H' fp' → k' a e G' H' fp') : PostO K mg W σ G H fp pv k' o := by
  cases o with
  | ok a e => exact fun G2 H2 fp2 s2 r => q _ _ _ _ _ s2 r (h G2 H2 fp2 s2 r)
  | err c => exact h
  | bad => exact h
theorem vax_f {n : Nat} {f : FP} {g : Env → Out (List AV)} (ha : VP X W e f) (hr : VAX X W n es g) (hs : starEach (e :: es) X.env = (false, eval e X.env) :: starEach es X.env) : VAX X W (n + 1) (e :: es) (xF f g) :=
  pa_imp (pa_cons ha hr hs) fun σ H Q ⟨G, env, fp, pv, rs, w⟩ => ⟨G, env, fp, pv, rs, PostO.ofR rs w fun x w v G1 H1 e1 q1 => by
    refine ⟨G1, env, fp, pv, rs.ext e1, PostO.impS (PostO.step (Stp.of_ext (fp := fp) e1) (PostO.seq0 w)) fun xs e' G2 H2 fp2 st rs2 ⟨_, st2, w2⟩ vs av hl => ?_⟩
    exact w2 G2 H2 fp2 st2 rs2 (v :: vs) (.cons (Fq.mono st.g q1) av) (by simp [hl])⟩
theorem vax_r {n i : Nat} {g : Env → Out (List AV)} (ha : PE X e (tVar i)) (hr : VAX X W n es g) (hs : starEach (e :: es) X.env = (false, eval e X.env) :: starEach es X.env) : VAX X W (n + 1) (e :: es) (xR i g) :=
  pa_imp (pa_cons ha hr hs) fun σ H Q ⟨G, env, fp, pv, rs, w⟩ => by
    unfold xR at w
    cases z : rd env i with
    | none => rw [z] at w; exact w.elim
    | some s =>
      rw [z] at w
      obtain ⟨v, r, hv, _⟩ := rs.rd z
      refine ⟨v, hv, G, env, fp, pv, rs, PostO.impS (PostO.seq0 w) fun xs e' G2 H2 fp2 st rs2 ⟨_, st2, w2⟩ vs av hl => ?_⟩
      exact w2 G2 H2 fp2 st2 rs2 (v :: vs) (.cons hv av) (by simp [hl])
theorem vax_e {n : Nat} {f : FE} {g : Env → Out (List AV)} (ha : VE X W e f) (hr : VAX X W n es g) (hs : starEach (e :: es) X.env = (false, eval e X.env) :: starEach es X.env) : VAX X W (n + 1) (e :: es) (xE f g) :=
  pa_imp (pa_cons ha hr hs) fun σ H Q ⟨G, env, fp, pv, rs, w⟩ => ⟨G, env, fp, pv, rs, PostO.impS (PostO.seq0 w) fun s e1 G1 H1 fp1 st1 rs1 ⟨_, _, w1⟩ v r ow nd fr => by
    unfold xE1 at w1
    cases s with
    | f x =>
      cases ow with
      | f q1 =>
        refine ⟨G1, e1, fp1, pv, rs1, PostO.impS (PostO.step st1 (PostO.seq0 w1)) fun xs e' G2 H2 fp2 st rs2 ⟨_, st2, w2⟩ vs av hl => ?_⟩
        exact w2 G2 H2 fp2 st2 rs2 (v :: vs) (.cons (Fq.mono st.g q1) av) (by simp [hl])
    | own _ => exact w1.elim
    | otup _ => exact w1.elim
    | obj _ _ => exact w1.elim⟩

/-! ### calls -/
/-- of what is only seen -/
def callP (S : Fn) (env : Env) (xs : List AV) : Res SV := match slotsOf env xs with
  | some sl => if refsOf xs = [] then outR (S sl) else .bad
  | none => .bad
def vCallP (S : Fn) (fs : Env → Res (List AV)) : FO := fun env => (fs env).bind (callP S env)
def callX (S : Fn) (xs : List AV) (e : Env) : Out SV := match slotsOf e xs with
  | some sl => if (refsOf xs).Nodup then (match S sl with
    | .ret s as => .ok s (backE e xs as)
    | .exc c => .err c
    | .bad => .bad) else .bad
  | none => .bad
def vCallX (S : Fn) (fs : Env → Out (List AV)) : FE := fun env => (fs env).bind (callX S)
theorem callP_ok {n : Nat} {S : Fn} {σ : L2.St} {G H : Hp} {env : Env} {fp : Nat → List Addr} {pv : Nat → V} {vs : List V} {xs : List AV} {Q : VK} (rs : RS X.K X.mg G σ env H fp pv) (av : AVs X.K X.mg G σ vs xs) (hl : xs.length = n)
    (w : PostR X.mg W σ H (jO X.K X.mg Q G H) (callP S env xs)) : spV X.K X.mg n S vs H Q (WE W σ) := by
  unfold callP at w
  cases z : slotsOf env xs with
  | none => rw [z] at w; exact w.elim
  | some sl =>
    rw [z] at w
    dsimp only at w
    by_cases hr : refsOf xs = []
    · rw [if_pos hr] at w
      have rs2 := rs.call av z (by rw [hr]; exact .nil)
      rw [fpC_nil hr] at rs2
      refine ⟨by rw [av.length]; exact hl, G, sl, fun _ => [], _, rs2, ?_⟩
      cases q : S sl with
      | ret s as =>
        rw [q] at w
        refine fun v G2 H2 fp2 r st rs3 ow nd fr => w v G2 H2 r (st.ext0 rs3.sub) ow nd fun a m => ⟨?_, (fr a m).1⟩
        rcases (fr a m).2.2 with k | ⟨_, k⟩
        · exact k
        · cases k
      | exc c =>
        rw [q] at w
        exact fun C G2 H2 m k _ => w C H2 m fun b o h => k.fr b o h fun _ q => by cases q
      | bad => rw [q] at w; exact w.elim
    · rw [if_neg hr] at w; exact w.elim
theorem callX_ok {n : Nat} {S : Fn} {σ : L2.St} {G H : Hp} {env : Env} {fp : Nat → List Addr} {pv : Nat → V} {vs : List V} {xs : List AV} {Q : VK} (rs : RS X.K X.mg G σ env H fp pv) (av : AVs X.K X.mg G σ vs xs) (hl : xs.length = n)
    (w : PostO X.K X.mg W σ G H fp pv (kE X.K X.mg Q H fp) (callX S xs env)) : spV X.K X.mg n S vs H Q (WE W σ) := by
  unfold callX at w
  cases z : slotsOf env xs with
  | none => rw [z] at w; exact w.elim
  | some sl =>
    rw [z] at w
    dsimp only at w
    by_cases hr : (refsOf xs).Nodup
    · rw [if_pos hr] at w
      have rs2 := rs.call av z hr
      refine ⟨by rw [av.length]; exact hl, G, sl, _, _, rs2, ?_⟩
      cases q : S sl with
      | ret s as =>
        rw [q] at w
        intro v G2 H2 fp2 r st rs3 ow nd fr
        obtain ⟨rb, sb, k⟩ := rs.backE av hr st rs3
        have kr := k r fun a m => ⟨(fr a m).2.1, (fr a m).2.2⟩
        exact w G2 H2 _ sb rb v r ow nd fun a m => ⟨(fr a m).1, (kr a m).1, (kr a m).2⟩
      | exc c =>
        rw [q] at w
        have w' : PostO X.K X.mg W σ G H fp pv (kE X.K X.mg Q H fp) (Out.err c) := w
        have inF : ∀ b j, b ∈ fpC xs fp j → ∃ i, b ∈ fp i := fun b j m => by
          obtain ⟨i, _, m⟩ := fpC_mem m
          exact ⟨i, m⟩
        refine fun C G2 H2 m k s => w' C G2 H2 m ⟨k.g, fun b o h q => k.fr b o h fun j m => ?_, fun a o q => ?_, (fun _ _ m => by cases m), k.trk, k.fld⟩ s
        · obtain ⟨i, m⟩ := inF b j m
          exact q i m
        · rcases k.n a o q with z | z | ⟨j, z⟩
          · exact .inl z
          · exact .inr (.inl z)
          · exact .inr (.inr (inF a j z))
      | bad => rw [q] at w; exact w.elim
    · rw [if_neg hr] at w; exact w.elim
theorem vo_callPD {k j n : Nat} {ps : List Str} {S : Fn} {x : Str} {p : Pos} {fs : Env → Res (List AV)} (D : Def X.prog X.w X.K X.mg X.base k n x ps S) (hr : Room j X.A) (hkj : k ≤ j) (tk : Takes X W) (ha : VAP X W n (e :: es) fs) (hg : Gl X x := by rfl) (hdb : (x == ("__debug__" : Str)) = false := by decide) (he : starEach (e :: es) X.env = (false, eval e X.env) :: starEach es X.env := by rfl) (hpl : (backTo pos (starEach es X.env)).any (·.1) = false := by rfl) :
    VO X W (.Call (.Name x p) (e :: es) [] pos) (vCallP S fs) := by
  obtain ⟨f, fd, F, m, kp, b⟩ := D
  exact pe_imp (pe_callS F (hr.mono hkj) hg m kp b (fun σ => passAt tk σ) ha hdb he hpl) fun σ H Q ⟨G, env, fp, pv, rs, w⟩ => ⟨G, env, fp, pv, rs, PostR.seq w fun xs w vs G1 H1 e1 av hl => by
    exact callP_ok (rs.ext e1) av hl (PostR.imp w e1.h fun s q => jO.ext e1 q)⟩
theorem ve_callXD {k j n : Nat} {ps : List Str} {S : Fn} {x : Str} {p : Pos} {fs : Env → Out (List AV)} (D : Def X.prog X.w X.K X.mg X.base k n x ps S) (hr : Room j X.A) (hkj : k ≤ j) (tk : Takes X W) (ha : VAX X W n (e :: es) fs) (hg : Gl X x := by rfl) (hdb : (x == ("__debug__" : Str)) = false := by decide) (he : starEach (e :: es) X.env = (false, eval e X.env) :: starEach es X.env := by rfl) (hpl : (backTo pos (starEach es X.env)).any (·.1) = false := by rfl) :
    VE X W (.Call (.Name x p) (e :: es) [] pos) (vCallX S fs) := by
  obtain ⟨f, fd, F, m, kp, b⟩ := D
  exact pe_imp (pe_callS F (hr.mono hkj) hg m kp b (fun σ => passAt tk σ) ha hdb he hpl) fun σ H Q ⟨G, env, fp, pv, rs, w⟩ => ⟨G, env, fp, pv, rs, PostO.impS (PostO.seq0 w) fun xs e1 G1 H1 fp1 st1 rs1 ⟨_, _, w1⟩ vs av hl => by
    exact callX_ok rs1 av hl (PostO.imp (PostO.step st1 w1) fun s e G' H' fp' k v r ow nd fr => k v r ow nd (Fresh.step st1 fr))⟩
/-! ### methods -/
/-- a method as its callers know it -/
def MDef (P : Program) (w : World) (K : PySem.W.Frag) (mg : Str → Option Value) (base : Heap) (k n : Nat) (c m : Str) (ps : List Str) (S : Fn) : Prop :=
  ∃ (C f : Addr) (fd : FuncData), mg c = some (.ref C) ∧ Cls K C ∧ Meth K C m f ∧ FnOk P w K mg base (L2.CX P w) k f fd ps (spV K mg n S) ∧ Binds K fd ps []
theorem pe_methV {k : Nat} {C f : Addr} {fd : FuncData} {ps : List Str} {sp : Sp} {E : L2.St → XK} {m : Str} {ta : TE} {t : TA} {pl : Sem Bool} (he : PE X o ta) (c : Cls X.K C) (hm : Meth X.K C m f) (F : FnOk X.prog X.w X.K X.mg X.base (L2.CX X.prog X.w) k f fd ps sp) (hr : Room k X.A) (hb : Binds X.K fd ps []) (hx : ∀ σ, PassesAt (L2.CX X.prog X.w) X σ (E σ)) (ha : PA X (e :: es) t)
    (hst : starEach (e :: es) X.env = (false, eval e X.env) :: starEach es X.env := by rfl) (hpl : (backTo pos (starEach es X.env)).any (·.1) = false := by rfl)
    (ht : eval (.Call (.Attribute o m apos) (e :: es) [] pos) X.env = (do
      let ov ← eval o X.env
      standAt apos.atName
      let (f, first) ← holding [ov] (getMethod ov m pl)
      callWith pos f first (backTo pos (starEach (e :: es) X.env)) (backToKw pos (keywordEach [] X.env))) := by rfl) :
    PE X (.Call (.Attribute o m apos) (e :: es) [] pos) (L2H.tMethH C m sp E ta t) := by
  refine ⟨fun pins s σ H Q I h => ?_⟩
  refine PySem.W.methodCall_KW (pl := pl) (thn (he.run pins s σ H _ I h) fun u s1 ⟨x, H1, I1, rx, a, dx, fs, ex, ea, l, q⟩ => ?_) ht
  subst ex
  obtain rfl : u = Value.ref a := rx
  refine getmeth_ok I1 ea c hm l ?_
  refine PySem.W.callWith_K (first := [.ref a]) (h₀ := X.base) I.ok.mod.kin hm.kp (thn (ha.run pos pins s1 σ H1 _ I1 q) fun us s2 ⟨vs, H2, I2, r, q2⟩ => ⟨I2.kIn, ?_⟩) hst hpl
  exact run_fnS (us := .ref a :: us) (vs := .ref a :: vs) F hr hb (hx σ) I2 (.cons rfl r) q2
/-- the receiver is an object of the class, without a field of that name -/
def recv (env : Env) (i : Nat) (cn m : Str) : Bool := match rd env i with
  | some (.obj c fs) => decide (c = cn) && (fs.lookup m).isNone
  | _ => false
def vMethP (cn m : Str) (S : Fn) (i : Nat) (fs : Env → Res (List AV)) : FO := fun env => if recv env i cn m = true then (fs env).bind fun xs => callP S env (.see i :: xs) else .bad
def vMethX (cn m : Str) (S : Fn) (i : Nat) (fs : Env → Out (List AV)) : FE := fun env => if recv env i cn m = true then (fs env).bind fun xs e => callX S (.ref i :: xs) e else .bad
theorem recv_ok {G H : Hp} {fp : Nat → List Addr} {σ : L2.St} {env : Env} {pv : Nat → V} {i : Nat} {cn m : Str} {C : Addr} (rs : RS X.K X.mg G σ env H fp pv) (h : recv env i cn m = true) (hc : X.mg cn = some (.ref C)) : ∃ a dx vs, σ[i]? = some (some (.ref a)) ∧ H a = some (.ins C dx vs) ∧ vs.lookup m = none := by
  unfold recv at h
  cases z : rd env i with
  | none => rw [z] at h; cases h
  | some s =>
    rw [z] at h
    cases s with
    | obj c fs =>
      dsimp only at h
      rw [Bool.and_eq_true] at h
      have ec : c = cn := of_decide_eq_true h.1
      obtain ⟨v, r, hv, ow⟩ := rs.rd z
      cases ow with
      | @obj a C' dx _ vs _ rr hm hH of =>
        rw [ec, hc] at hm
        cases hm
        exact ⟨a, dx, vs, hv, hH, of.look_none (by simpa using h.2)⟩
    | f _ => cases h
    | own _ => cases h
    | otup _ => cases h
theorem vo_methD {k j n i : Nat} {cn m : Str} {ps : List Str} {S : Fn} {fs : Env → Res (List AV)} {pl : Sem Bool} (D : MDef X.prog X.w X.K X.mg X.base k (n + 1) cn m ps S) (hr : Room j X.A) (hkj : k ≤ j) (tk : Takes X W) (ho : PE X o (tVar i)) (ha : VAP X W n (e :: es) fs)
    (hst : starEach (e :: es) X.env = (false, eval e X.env) :: starEach es X.env := by rfl) (hpl : (backTo pos (starEach es X.env)).any (·.1) = false := by rfl)
    (ht : eval (.Call (.Attribute o m apos) (e :: es) [] pos) X.env = (do
      let ov ← eval o X.env
      standAt apos.atName
      let (f, first) ← holding [ov] (getMethod ov m pl)
      callWith pos f first (backTo pos (starEach (e :: es) X.env)) (backToKw pos (keywordEach [] X.env))) := by rfl) :
    VO X W (.Call (.Attribute o m apos) (e :: es) [] pos) (vMethP cn m S i fs) := by
  obtain ⟨C, f, fd, hc, c, hm, F, b⟩ := D
  exact pe_imp (pe_methV (pl := pl) ho c hm F (hr.mono hkj) b (fun σ => passAt tk σ) ha hst hpl ht) fun σ H Q ⟨G, env, fp, pv, rs, w⟩ => by
    unfold vMethP at w
    by_cases hv : recv env i cn m = true
    · rw [if_pos hv] at w
      obtain ⟨a, dx, vs0, h1, h2, h3⟩ := recv_ok rs hv hc
      refine ⟨.ref a, h1, a, dx, vs0, rfl, h2, h3, G, env, fp, pv, rs, PostR.seq w fun xs w vs G1 H1 e1 av hl => ?_⟩
      exact callP_ok (rs.ext e1) (.cons (x := .see i) h1 av) (by simp [hl]) (PostR.imp w e1.h fun s q => jO.ext e1 q)
    · rw [if_neg hv] at w; exact w.elim
theorem ve_methD {k j n i : Nat} {cn m : Str} {ps : List Str} {S : Fn} {fs : Env → Out (List AV)} {pl : Sem Bool} (D : MDef X.prog X.w X.K X.mg X.base k (n + 1) cn m ps S) (hr : Room j X.A) (hkj : k ≤ j) (tk : Takes X W) (ho : PE X o (tVar i)) (ha : VAX X W n (e :: es) fs)
    (hst : starEach (e :: es) X.env = (false, eval e X.env) :: starEach es X.env := by rfl) (hpl : (backTo pos (starEach es X.env)).any (·.1) = false := by rfl)
    (ht : eval (.Call (.Attribute o m apos) (e :: es) [] pos) X.env = (do
      let ov ← eval o X.env
      standAt apos.atName
      let (f, first) ← holding [ov] (getMethod ov m pl)
      callWith pos f first (backTo pos (starEach (e :: es) X.env)) (backToKw pos (keywordEach [] X.env))) := by rfl) :
    VE X W (.Call (.Attribute o m apos) (e :: es) [] pos) (vMethX cn m S i fs) := by
  obtain ⟨C, f, fd, hc, c, hm, F, b⟩ := D
  exact pe_imp (pe_methV (pl := pl) ho c hm F (hr.mono hkj) b (fun σ => passAt tk σ) ha hst hpl ht) fun σ H Q ⟨G, env, fp, pv, rs, w⟩ => by
    unfold vMethX at w
    by_cases hv : recv env i cn m = true
    · rw [if_pos hv] at w
      obtain ⟨a, dx, vs0, h1, h2, h3⟩ := recv_ok rs hv hc
      refine ⟨.ref a, h1, a, dx, vs0, rfl, h2, h3, G, env, fp, pv, rs, PostO.impS (PostO.seq0 w) fun xs e1 G1 H1 fp1 st1 rs1 ⟨_, _, w1⟩ vs av hl => ?_⟩
      exact callX_ok rs1 (.cons (x := .ref i) h1 av) (by simp [hl]) (PostO.imp (PostO.step st1 w1) fun s e G' H' fp' k v r ow nd fr => k v r ow nd (Fresh.step st1 fr))
    · rw [if_neg hv] at w; exact w.elim
end
end VL

set_option Elab.async false
set_option linter.all false
set_option maxRecDepth 100000
set_option maxHeartbeats 4000000
namespace VL
open PySem PySem.Spec PyProof.Rows L2

/-! ### exceptions of the text's own -/
/-- the hierarchy: all are under VeilError -/
def subE (c d : Str) : Bool := decide (c = d) || decide (d = "VeilError")
structure Exs (K : PySem.W.Frag) (mg : Str → Option Value) (L : List Str) : Prop where
  at_ : ∀ c ∈ L, ∃ C : Addr, mg c = some (.ref C) ∧ ExcC K C ∧ PySem.W.kitOne K (.ref C) (.type "ValueError") = some true ∧
    ∀ d ∈ L, ∀ D : Addr, mg d = some (.ref D) → PySem.W.exmOne K (.ref C) (.ref D) = some (subE c d) ∧ PySem.W.kitOne K (.ref C) (.ref D) = some (subE c d)
theorem clsIn_of {K : PySem.W.Frag} {C : Addr} (h : PySem.W.hasDictIn K C = true) : (PySem.W.clsIn K C).isSome = true := by
  obtain ⟨cd, e, _⟩ := PySem.W.any_some h
  rw [e]; rfl
theorem kit_own {K : PySem.W.Frag} {C D : Addr} {b : Bool} (hd : PySem.W.hasDictIn K D = true) (ht : PySem.W.typeIn K (.ref D) = some (.type "type")) (hs : PySem.W.subIn K (.ref C) (.ref D) = some b) (hc : PySem.W.subIn K (.ref C) (.ref C) = some true) : PySem.W.kitOne K (.ref C) (.ref D) = some b := by
  unfold PySem.W.kitOne
  by_cases q : (Value.ref C == Value.ref D) = true
  · rw [if_pos q]
    have e : C = D := Value.ref.inj (beq_iff_eq.mp q)
    subst e
    rw [hs] at hc
    cases hc
    rfl
  · rw [if_neg q]
    show (if ((PySem.W.clsIn K D).isSome && PySem.W.typeIn K (.ref D) == some (.type "type")) = true then PySem.W.subIn K (.ref C) (.ref D) else none) = _
    rw [clsIn_of hd, ht, if_pos (by rfl)]
    exact hs
theorem kit_val {K : PySem.W.Frag} {C : Addr} (hs : PySem.W.subIn K (.ref C) (.type "ValueError") = some true) : PySem.W.kitOne K (.ref C) (.type "ValueError") = some true := by
  unfold PySem.W.kitOne
  rw [if_neg fun q => by have e := beq_iff_eq.mp q; cases e]
  show (if PySem.W.kitMeta "ValueError" = true then _ else none) = _
  rw [if_pos (by decide +kernel)]
  exact hs
section
variable {X : Cx} {W : WX} {a b c e o : Expr} {es : List Expr} {pos apos cpos : Pos} {st : Stmt} {sts : List Stmt}
/-- behind an except suite: the name is gone -/
def offI (i : Nat) : Flow → Flow
  | .nx e => .nx (e.set i .no)
  | .rt s e => .rt s (e.set i .no)
  | _ => .bad
def vTry (L : List Str) (cn : Str) (body : ST) (i : Nat) (suite : Str → ST) : ST := fun env => match body env with
  | .err c e => if L.contains c = true ∧ i < e.length then (if subE c cn = true then offI i (suite c (e.set i .no)) else .err c e) else .bad
  | r => r
/-- in the suite: the name holds the exception -/
def tX (x : Addr) (i : Nat) (t : TE) : TE := fun σ H Q => σ[i]? = some (some (.ref x)) ∧ t σ H Q
def tXT (x : Addr) (i : Nat) (t : TT) : TT := fun σ H Q => σ[i]? = some (some (.ref x)) ∧ t σ H Q
def tXS (x : Addr) (i : Nat) (t : TS) : TS := fun D σ H => σ[i]? = some (some (.ref x)) ∧ t D σ H
abbrev VPx (X : Cx) (W : WX) (x : Addr) (i : Nat) (e : Expr) (f : FP) : Prop := PE X e (tX x i (tP X.K X.mg W f))
abbrev VSsx (X : Cx) (W : WX) (x : Addr) (i : Nat) (st : List Stmt) (f : ST) : Prop := PSs X st (tXS x i (tS X.K X.mg W f))
theorem RS.ofSet {K : PySem.W.Frag} {mg : Str → Option Value} {G H : Hp} {fp : Nat → List Addr} {σ : L2.St} {env : Env} {pv : Nat → V} (h : RS K mg G σ env H fp pv) (i : Nat) (o : Option V) : RS K mg G (σ.set i o) (env.set i .no) H (fun j => if j = i then [] else fp j) pv := by
  have d := h.drop i
  refine ⟨by rw [List.length_set, List.length_set]; exact h.len, fun j u e => ?_, d.nil, d.sub, d.out, d.nd, d.dj⟩
  have r := d.rel j u e
  by_cases hj : j = i
  · subst hj
    by_cases hl : j < env.length
    · rw [List.getElem?_set_self hl] at e
      cases e
      exact r
    · rw [List.getElem?_eq_none (by rw [List.length_set]; omega)] at e; cases e
  · rw [List.getElem?_set_ne (Ne.symm hj)]
    exact r
/-- what the suite is to be read as, for whatever is caught -/
def tsOf (K : PySem.W.Frag) (mg : Str → Option Value) (L : List Str) (i : Nat) (suite : Str → ST) (x : Addr) (cls : Value) : TS := fun D σ H => ∃ c D0, cls = .ref D0 ∧ mg c = some (.ref D0) ∧ c ∈ L ∧ tXS x i (tS K mg (fun _ _ _ _ => False) (suite c)) D σ H
theorem post_off {K : PySem.W.Frag} {mg : Str → Option Value} {W : WX} {D : Ends} {G H : Hp} {fp : Nat → List Addr} {pv : Nat → V} {i : Nat} {f : Flow} (h : Post K mg W D G H fp pv (offI i f)) :
    Post K mg (fun _ _ _ _ => False) { nx := fun σ' H' => D.nx (σ'.set i none) H', rt := D.rt, bk := fun σ' H' => D.bk (σ'.set i none) H', ct := fun σ' H' => D.ct (σ'.set i none) H' } G H fp pv f := by
  have subI : ∀ {fp' : Nat → List Addr} {G' H' : Hp}, Stp G H fp G' H' fp' → Stp G H fp G' H' (fun j => if j = i then [] else fp' j) := fun {fp' G' H'} s => s.sub fun j b m => by
    by_cases hj : j = i
    · rw [if_pos hj] at m; cases m
    · rw [if_neg hj] at m; exact s.f j b m
  cases f with
  | nx e => exact fun G' σ' H' fp' s r => h G' _ H' _ (subI s) (r.ofSet i none)
  | rt v e =>
    intro u G' σ' H' fp' r s rs ow nd fr
    refine h u G' σ' H' _ r (subI s) (rs.drop i) ow nd fun a m => ⟨(fr a m).1, fun j mj => ?_, (fr a m).2.2⟩
    by_cases hj : j = i
    · rw [if_pos hj] at mj; cases mj
    · rw [if_neg hj] at mj; exact (fr a m).2.1 j mj
  | err c e => exact h.elim
  | bad => exact h.elim
theorem vs_try {L : List Str} {cn n : Str} {i : Nat} {body : ST} {suite : Str → ST} {B : List Stmt} {b₀ : Stmt} {R : List Stmt} {np pos' : Pos} (ex : Exs X.K X.mg L) (hcn : cn ∈ L) (hs : X.stack = X.env :: X.outer) (hf : X.env.frame = some X.env.locals) (hN : X.N.Nodup) (hi : X.N[i]? = some n) (hln : X.env.kindOf n = some .local) (hg : Gl X cn) (hdb : (cn == ("__debug__" : Str)) = false) (tk : Takes X W)
    (hb : ∀ (W : WX) (pn : List (Addr × Obj)) (xe : Value → Shared → Prop), Takes (X.tr pn xe) W → PassesOwn (model X.prog X.w) X.A X.env xe → VSs (X.tr pn xe) W B body)
    (hsu : ∀ (c : Str) (D : Addr) (x : Addr) (oe : Obj) (pn : List (Addr × Obj)), c ∈ L → X.mg c = some (.ref D) → Zc (.ref D) none oe → (∃ vs, oe.data = .fields vs) → VSsx (X.suite x ((x, oe) :: pn)) (fun _ _ _ _ => False) x i (b₀ :: R) (suite c)) :
    VS X W (.Try B [.ExceptHandler (some (.Name cn np)) (some n) (b₀ :: R) pos'] [] [] pos) (vTry L cn body i suite) := by
  obtain ⟨CN, mcn, _⟩ := ex.at_ cn hcn
  refine ps_imp (ps_try_as (tb := fun W => tS X.K X.mg W body) (i := i) (Wout := W) (c := .ref CN) (ts := fun x cls d => fun D σ H => d = none ∧ tsOf X.K X.mg L i suite x cls D σ H) hs hf hN hi hln ⟨hg, hdb, .inl mcn⟩ tk (fun W pn xe tk po => hb W pn xe tk po) ?_) ?_
  · intro x oe cls d pn hz hd
    refine ⟨fun pins s σ H D I h => ?_⟩
    obtain ⟨ed, c, D0, e1, m, hc, w⟩ := h
    subst e1 ed
    exact (hsu c D0 x oe pn hc m hz hd).run pins s σ H D I w
  · intro D σ H ⟨G, env, fp, pv, rs, w⟩
    refine ⟨G, env, fp, pv, rs, ?_⟩
    unfold vTry at w
    cases z : body env with
    | nx e => rw [z] at w; exact w
    | rt v e => rw [z] at w; exact w
    | bad => rw [z] at w; exact w
    | err c e =>
      rw [z] at w
      dsimp only at w
      by_cases hc : L.contains c = true ∧ i < e.length
      · rw [if_pos hc] at w
        have hm : c ∈ L := by simpa using hc.1
        intro C G' σ' H' fp' m s rs'
        obtain ⟨C', m', _, _, k⟩ := ex.at_ c hm
        rw [m] at m'
        cases m'
        refine ⟨subE c cn, (k cn hcn CN mcn).1, fun hy x hx => ⟨rfl, c, C, rfl, m, hm, ?_, ?_⟩, fun hn => ?_⟩
        · rw [List.getElem?_set_self (by rw [← rs'.len]; exact hc.2)]
        · rw [if_pos hy] at w
          have w2 := post_off w
          refine ⟨G', e.set i .no, _, pv, rs'.ofSet i _, w2.step (s.sub fun j b mb => ?_)⟩
          by_cases hj : j = i
          · rw [if_pos hj] at mb; cases mb
          · rw [if_neg hj] at mb; exact s.f j b mb
        · rw [if_neg (by rw [hn]; exact Bool.false_ne_true)] at w
          exact w C G' σ' H' fp' m s rs'
      · rw [if_neg hc] at w; exact w.elim

/-! ### what a suite says -/
variable {x : Addr} {i : Nat}
theorem vpx_l {f : FP} (h : VP X W e f) : VPx X W x i e f := pe_imp h fun σ H Q w => w.2
/-- isinstance(e, C), C of the text; a built-in class -/
theorem vpx_isE {c cn n : Str} {D : Addr} {oe : Obj} {pn : List (Addr × Obj)} {L : List Str} {p p1 p2 : Pos} (ex : Exs X.K X.mg L) (hc : c ∈ L) (hcn : cn ∈ L) (mc : X.mg c = some (.ref D)) (hz : Zc (.ref D) none oe) (hf : ∃ vs, oe.data = .fields vs) (ho : PE (X.suite x ((x, oe) :: pn)) (.Name n p1) (tVar i))
    (hm : X.mg "isinstance" = none) (hg : Gl (X.suite x ((x, oe) :: pn)) "isinstance" := by rfl) (hgc : Gl (X.suite x ((x, oe) :: pn)) cn := by rfl) (hdc : (cn == ("__debug__" : Str)) = false := by decide)
    (he : starEach [.Name n p1, .Name cn p2] X.env = (false, eval (.Name n p1) X.env) :: starEach [.Name cn p2] X.env := by rfl) (he2 : starEach [.Name cn p2] X.env = (false, eval (.Name cn p2) X.env) :: starEach [] X.env := by rfl) (hpl : (backTo pos (starEach [.Name cn p2] X.env)).any (·.1) = false := by rfl) :
    VPx (X.suite x ((x, oe) :: pn)) W x i (.Call (.Name "isinstance" p) [.Name n p1, .Name cn p2] [] pos) (fun _ => iB (subE c cn)) := by
  obtain ⟨C1, m1, xc, _, k⟩ := ex.at_ c hc
  rw [mc] at m1
  cases m1
  obtain ⟨C2, m2, _, _, _⟩ := ex.at_ cn hcn
  exact pe_imp (pe_callB (call_isE xc hz hf) hg hm boot_isinstance (pa_cons ho (pa_cons (pe_glob (v := .ref C2) hgc m2 rfl hdc) pa_nil he2) he) (by decide) (by decide) he hpl) fun σ H Q ⟨hi, G, env, fp, pv, rs, w⟩ =>
    ⟨.ref x, hi, .ref C2, .ref C2, _, rfl, fun u r => r, (k cn hcn C2 m2).2, w _ G H (Ext.refl rs.sub) (.d (.bl _))⟩
theorem vpx_isV {c n : Str} {D : Addr} {oe : Obj} {pn : List (Addr × Obj)} {L : List Str} {p p1 p2 : Pos} (ex : Exs X.K X.mg L) (hc : c ∈ L) (mc : X.mg c = some (.ref D)) (hz : Zc (.ref D) none oe) (hf : ∃ vs, oe.data = .fields vs) (ho : PE (X.suite x ((x, oe) :: pn)) (.Name n p1) (tVar i))
    (hm : X.mg "isinstance" = none) (hv : X.mg "ValueError" = none) (hg : Gl (X.suite x ((x, oe) :: pn)) "isinstance" := by rfl) (hgc : Gl (X.suite x ((x, oe) :: pn)) "ValueError" := by rfl)
    (he : starEach [.Name n p1, .Name "ValueError" p2] X.env = (false, eval (.Name n p1) X.env) :: starEach [.Name "ValueError" p2] X.env := by rfl) (he2 : starEach [.Name "ValueError" p2] X.env = (false, eval (.Name "ValueError" p2) X.env) :: starEach [] X.env := by rfl) (hpl : (backTo pos (starEach [.Name "ValueError" p2] X.env)).any (·.1) = false := by rfl) :
    VPx (X.suite x ((x, oe) :: pn)) W x i (.Call (.Name "isinstance" p) [.Name n p1, .Name "ValueError" p2] [] pos) (vC (.bool true)) := by
  obtain ⟨C1, m1, xc, kv, _⟩ := ex.at_ c hc
  rw [mc] at m1
  cases m1
  exact pe_imp (pe_callB (call_isE xc hz hf) hg hm boot_isinstance (pa_cons ho (pa_cons (pe_bltn (v := .ty "ValueError") hgc hv (by decide +kernel) rfl (by decide) (by decide)) pa_nil he2) he) (by decide) (by decide) he hpl) fun σ H Q ⟨hi, G, env, fp, pv, rs, w⟩ =>
    ⟨.ref x, hi, .ty "ValueError", .type "ValueError", _, rfl, fun u r => r, kv, w _ G H (Ext.refl rs.sub) (.d (.bl _))⟩
theorem vpx_one {op} {f : FP} (h : VPx X W x i a f) : VPx X W x i (.BoolOp op [a] pos) f := pe_one h
theorem vpx_and {f g : FP} {rest : List Expr} (ha : VPx X W x i a f) (hb : VPx X W x i (.BoolOp .And (b :: rest) pos) g) : VPx X W x i (.BoolOp .And (a :: b :: rest) pos) (vAnd f g) :=
  pe_imp (pe_and ha hb) fun σ H Q ⟨hi, G, env, fp, pv, rs, w⟩ => ⟨hi, G, env, fp, pv, rs, PostR.seq w fun k w v G1 H1 e1 q1 => by
    obtain ⟨k, rfl, w⟩ := bB_ok q1 w
    refine ⟨k, rfl, ?_⟩
    cases k with
    | true => exact ⟨hi, G1, env, fp, pv, rs.ext e1, PostR.imp w e1.h fun z w v G2 H2 e2 => w v G2 H2 (e1.trans e2)⟩
    | false => exact jP.bool e1.s (jP.ext e1 w)⟩
theorem vpx_not {f : FP} (h : VPx X W x i a f) : VPx X W x i (.UnaryOp .Not a pos) (vNot f) := pe_imp (pe_not h) fun σ H Q ⟨hi, G, env, fp, pv, rs, w⟩ => ⟨hi, G, env, fp, pv, rs, PostR.seq w fun k w v G1 H1 e1 q1 => by
    obtain ⟨k, rfl, w⟩ := bB_ok q1 w
    exact ⟨k, rfl, jP.bool e1.s (jP.ext e1 w)⟩⟩
abbrev VTx (X : Cx) (W : WX) (x : Addr) (i : Nat) (e : Expr) (f : FT) : Prop := PT X e (tXT x i (tT X.K X.mg W f))
theorem vtx_p {f : FP} (h : VPx X W x i e f) (he : ∀ whole, isTrue e X.env whole = (do let v ← whole; standAt e.pos; holding [v] (truthy v)) := by intro _; rfl) : VTx X W x i e (toT f) :=
  pt_imp (pt_val h he) fun σ H Q w => ⟨w.1, tT_tP w.2⟩
theorem vpx_if {t : FT} {f g : FP} (hc : VTx X W x i c t) (ha : VPx X W x i a f) (hb : VPx X W x i b g) : VPx X W x i (.IfExp c a b pos) (vIf t f g) :=
  pe_imp (pe_ifExp hc ha hb) fun σ H Q ⟨hi, G, env, fp, pv, rs, w⟩ => ⟨hi, G, env, fp, pv, rs, PostR.seq w fun k w G1 H1 e1 => by
    cases k with
    | true => exact ⟨hi, G1, env, fp, pv, rs.ext e1, PostR.imp w e1.h fun z w v G2 H2 e2 => w v G2 H2 (e1.trans e2)⟩
    | false => exact ⟨hi, G1, env, fp, pv, rs.ext e1, PostR.imp w e1.h fun z w v G2 H2 e2 => w v G2 H2 (e1.trans e2)⟩⟩
/-- displays -/
def tXA (x : Addr) (i : Nat) (t : TA) : TA := fun σ H Q => σ[i]? = some (some (.ref x)) ∧ t σ H Q
abbrev VAx (X : Cx) (W : WX) (x : Addr) (i : Nat) (es : List Expr) (f : Env → Res (List PyData)) : Prop := PA X es (tXA x i (tA X.K X.mg W f))
theorem vax_nil : VAx X W x i [] vNil := pa_imp pa_nil fun σ H Q ⟨hi, G, env, fp, pv, rs, w⟩ => w [] G H (Ext.refl rs.sub) .nil
theorem vax_cons {f : FP} {g : Env → Res (List PyData)} (ha : VPx X W x i e f) (hr : VAx X W x i es g) (hs : starEach (e :: es) X.env = (false, eval e X.env) :: starEach es X.env) : VAx X W x i (e :: es) (vCons (toD f) g) :=
  pa_imp (pa_cons ha hr hs) fun σ H Q ⟨hi, G, env, fp, pv, rs, w⟩ => ⟨hi, G, env, fp, pv, rs, PostR.seq (toD_seq w) fun x w v G1 H1 e1 q1 => by
    obtain ⟨y, q1, w⟩ := toD_ok q1 w
    refine ⟨hi, G1, env, fp, pv, rs.ext e1, PostR.imp (PostR.seq (k := fun y => PostR X.mg W σ H _ (Res.ok (_ :: y))) w fun y w => w) e1.h fun xs w vs G2 H2 e2 q2 => ?_⟩
    exact w (v :: vs) G2 H2 (e1.trans e2) (.cons (q1.mono e2.g) q2)⟩
theorem vpx_tup {g : Env → Res (List PyData)} {x1} (h : VAx X W x i es g) : VPx X W x i (.Tuple es x1 pos) (vTup g) := pe_imp (pe_tup h) fun σ H Q ⟨hi, G, env, fp, pv, rs, w⟩ => ⟨hi, G, env, fp, pv, rs, PostR.seq w fun xs w vs G1 H1 e1 q1 => by
  by_cases h : xs.length ≤ 16777216
  · rw [cIf_pos h] at w
    exact ⟨by rw [q1.length, sl_eq]; exact h, new_tup e1.s q1 (jP.ext e1 w)⟩
  · rw [cIf_neg h] at w; exact w.elim⟩
theorem vpx_lst {g : Env → Res (List PyData)} (h : VAx X W x i es g) : PE X (.List es pos) (tX x i (tO X.K X.mg W (vLst g))) := pe_imp (pe_lst h) fun σ H Q ⟨hi, G, env, fp, pv, rs, w⟩ => ⟨hi, G, env, fp, pv, rs, PostR.seq w fun xs w vs G1 H1 e1 q1 => by
  by_cases h : xs.length ≤ 16777216
  · rw [cIf_pos h] at w
    exact ⟨by rw [q1.length, sl_eq]; exact h, new_dl e1.s q1 (jO.ext e1 w)⟩
  · rw [cIf_neg h] at w; exact w.elim⟩
/-- told + [..] -/
noncomputable def catL : PyData → PyData → Res SV
  | .list xs, .list ys => cIf (xs.length + ys.length ≤ 16777216) (.ok (SV.dl (xs ++ ys))) .bad
  | _, _ => .bad
theorem vpx_add {f : FD} {g : FO} (ha : VD X W a f) (hb : PE X b (tX x i (tO X.K X.mg W g))) : PE X (.BinOp a .Add b pos) (tX x i (tO X.K X.mg W (v2 catL f (frD g)))) :=
  pe_imp (pe_op op_cat ha hb) fun σ H Q ⟨hi, G, env, fp, pv, rs, w⟩ => ⟨G, env, fp, pv, rs, PostR.seq w fun y w vx G1 H1 e1 q1 => by
    refine ⟨hi, G1, env, fp, pv, rs.ext e1, ?_⟩
    have w1 : PostR X.mg W σ H (jO X.K X.mg Q G H) (((g env).bind fun s => match s.frz with | some x => Res.ok x | none => .bad).bind (catL y)) := w
    rw [show ((g env).bind fun s => match s.frz with | some x => Res.ok x | none => .bad).bind (catL y) = (g env).bind fun s => (match s.frz with | some x => Res.ok x | none => .bad).bind (catL y) by cases g env <;> rfl] at w1
    refine PostR.imp (PostR.seq (k := fun s => PostR X.mg W σ H (jO X.K X.mg Q G H) ((match s.frz with | some x => Res.ok x | none => .bad).bind (catL y))) w1 fun s w => w) e1.h fun s w v G2 H2 r e2 ow nd fr => ?_
    cases z : s.frz with
    | none => rw [z] at w; exact w.elim
    | some p =>
      rw [z] at w
      have g0 : Same G2 (gu G2 H2 r) := gu_same e2.s
      have q2 : Dr X.K (gu G2 H2 r) H2 v p := .fz (ow.frozen g0 (fun a m o e => by rw [gu_in m]; exact e) z)
      have e2' : Ext G1 H1 (gu G2 H2 r) H2 := ⟨e2.g.trans g0, e2.h, gu_sub e2.s, fun a o e => by
        by_cases m : a ∈ r
        · exact .inr (fr a m).1
        · rw [gu_out m] at e; exact e2.n a o e⟩
      have w2 : PostR X.mg W σ H (jO X.K X.mg Q G H) (catL y p) := w
      unfold catL cIf at w2
      split at w2
      · split at w2
        · rename_i xs ys hl
          obtain ⟨p1, v1, e3, h1, t1⟩ := (q1.mono e2'.g e2'.h).lst e2'.s
          obtain ⟨p2, v2, e4, h2, t2⟩ := q2.lst e2'.s
          exact ⟨p1, p2, v1, v2, e3, e4, h1, h2, by rw [t1.length, t2.length, sl_eq]; exact hl, new_dl e2'.s (t1.append t2) (jO.ext (e1.trans e2') w2)⟩
        · exact w2.elim
      · exact w2.elim⟩
/-- statements -/
theorem vsx_l {f : ST} (h : VSs X W sts f) : VSsx X W x i sts f := pss_imp h fun D σ H w => w.2
theorem vsx_ret {f : FP} (h : VPx X W x i e f) : VSsx X W x i [.Return (some e) pos] (vRetP f) := pss_imp (pss_one (ps_ret h)) fun D σ H ⟨hi, G, env, fp, pv, rs, w⟩ => ⟨hi, G, env, fp, pv, rs, Post.ofR rs w fun s w v G1 H1 e1 q1 =>
  w v G1 σ H1 fp [] (Stp.of_ext e1) (rs.ext e1) (.f q1) .nil fun a m => by cases m⟩
theorem vsx_set {j : Nat} {y : Str} {f : FO} {g : ST} {pos' : Pos} (hij : j ≠ i) (hN : X.N.Nodup) (hj : X.N[j]? = some y) (hx : Loc X.env.scope y) (he : PE X e (tX x i (tO X.K X.mg W f))) (hs : swapsWith e (some (.Name y pos')) pos.line X.env = pure false) (hf : X.fn y = true ∨ X.env.scope.names.lookup y = some .local) (hr : VSsx X W x i sts g) :
    VSsx X W x i (.Assign [.Name y pos'] e pos :: sts) (vSeq (vSet j (frO f)) g) := pss_imp (pss_cons (ps_set hN hj hx he hs hf) hr) fun D σ H ⟨hi, G, env, fp, pv, rs, w⟩ => by
    refine ⟨hi, G, env, fp, pv, rs, ?_⟩
    unfold vSeq vSet frO at w
    cases z : f env with
    | err c =>
      rw [z] at w
      exact fun C H2 m s => w C G σ H2 fp m (Stp.of_ext ⟨Same.refl _, s, rs.sub.trans s, fun _ _ e => .inl e⟩) (rs.same s)
    | bad => rw [z] at w; exact w.elim
    | ok s =>
      rw [z] at w
      intro v G1 H1 r e1 ow nd fr
      have w1 : Post X.K X.mg W D G H fp pv (match ofR (match s.frz? with | some x => Res.ok x | none => .bad) env (fun x => setS env j (.va (.f x))) with | .nx e => g e | r => r) := w
      cases zf : s.frz? with
      | none => rw [zf] at w1; exact w1.elim
      | some y =>
        rw [zf] at w1
        have w2 : Post X.K X.mg W D G H fp pv (match setS env j (.va (.f y)) with | .nx e => g e | r => r) := w1
        unfold setS at w2
        by_cases cc : canSet env j = true
        · rw [if_pos cc] at w2
          have g0 : Same G1 (gu G1 H1 r) := gu_same e1.s
          have e1' : Ext G H (gu G1 H1 r) H1 := ⟨e1.g.trans g0, e1.h, gu_sub e1.s, fun a o e => by
            by_cases m : a ∈ r
            · exact .inr (fr a m).1
            · rw [gu_out m] at e; exact e1.n a o e⟩
          have q1 : Fq X.K X.mg (gu G1 H1 r) v y := ow.frozenF g0 (fun a m o e => by rw [gu_in m]; exact e) zf
          have st1 : Stp G H fp (gu G1 H1 r) H1 (fun k => if k = j then [] else fp k) := (Stp.of_ext (fp := fp) e1').sub (sub_ite fun a m => by cases m)
          exact ⟨by rw [List.getElem?_set_ne hij]; exact hi, gu G1 H1 r, _, _, pv, (rs.ext e1').set (canSet_lt cc) (.f q1) .nil (fun a m => by cases m), w2.step st1⟩
        · rw [if_neg cc] at w2; exact w2.elim
end
end VL

set_option Elab.async false
set_option linter.all false
set_option maxRecDepth 100000
set_option maxHeartbeats 4000000
namespace VL
open PySem PySem.Spec PyProof.Rows L2

/-! ### a part of a tree frozen -/
def frzE (env : Env) (i : Nat) (ps : List Pst) : Option Env := match tree env i with
  | some (kd, s) => match subS s ps with
    | some t => match t.frz? with
      | some x => some (env.set i (kd.mk (updS s ps (.f x))))
      | none => none
    | none => none
  | none => none
section
variable {K : PySem.W.Frag} {mg : Str → Option Value} {G G' H H' : Hp} {fp fp' : Nat → List Addr} {σ : L2.St} {env e : Env} {pv : Nat → V}
theorem RS.grow {r : List Addr} (h : RS K mg G σ env H fp pv) (hr : ∀ a ∈ r, ∀ i, a ∉ fp i) : RS K mg (gu G H r) σ env H fp pv where
  len := h.len
  rel := fun i s e => (h.rel i s e).mono (gu_same h.sub) (Same.refl _)
  nil := h.nil
  sub := gu_sub h.sub
  out := fun i a m => by
    rw [gu_out fun q => hr a q i m]
    exact h.out i a m
  nd := h.nd
  dj := h.dj
theorem RS.frz (rs : RS K mg G σ env H fp pv) {i : Nat} {ps : List Pst} (h : frzE env i ps = some e) : ∃ r fp', RS K mg (gu G H r) σ e H fp' pv ∧ (∀ a ∈ r, a ∈ fp i) ∧ ∀ j a, a ∈ fp' j → a ∈ fp j := by
  unfold frzE at h
  cases z : VL.tree env i with
  | none => rw [z] at h; cases h
  | some kt =>
    obtain ⟨kd, s⟩ := kt
    rw [z] at h
    dsimp only at h
    cases zs : subS s ps with
    | none => rw [zs] at h; cases h
    | some t =>
      rw [zs] at h
      dsimp only at h
      cases zf : t.frz? with
      | none => rw [zf] at h; cases h
      | some x =>
        rw [zf] at h
        cases h
        obtain ⟨hs, v, hv, hp, ow⟩ := rs.tree z
        have hi : i < env.length := (List.getElem?_eq_some_iff.mp hs).1
        obtain ⟨u, r1, e1, o1, n1, s1, ex⟩ := ow.exch (rs.nd i) zs
        have g : Same G (gu G H r1) := gu_same rs.sub
        obtain ⟨r', o', n', q'⟩ := ex (G' := gu G H r1) (H' := H) (t' := .f x) (r1' := []) ⟨g, fun _ _ _ => rfl, .f (o1.frozenF g (fun a m o e => by rw [gu_in m]; exact e) zf), .nil, fun _ m => by cases m⟩
        have sub' : ∀ a ∈ r', a ∈ fp i ∧ a ∉ r1 := fun a m => by
          rcases q' a m with q | q
          · cases q
          · exact q
        refine ⟨r1, fun j => if j = i then r' else fp j, ⟨?_, fun j u e => ?_, fun j hj => ?_, gu_sub rs.sub, fun j a m => ?_, fun j => ?_, fun j k a m1 m2 => ?_⟩, s1, fun j a m => ?_⟩
        · rw [List.length_set]; exact rs.len
        · by_cases q : j = i
          · subst q
            rw [List.getElem?_set_self hi] at e
            cases e
            rw [if_pos rfl]
            cases kd with
            | va => exact ⟨v, hv, o'⟩
            | rf => rw [← hp rfl]; exact ⟨hv, o'⟩
          · rw [List.getElem?_set_ne (Ne.symm q)] at e
            rw [if_neg q]
            exact (rs.rel j u e).mono g (Same.refl _)
        · rw [List.length_set] at hj
          show (if j = i then r' else fp j) = []
          rw [if_neg (by omega)]
          exact rs.nil j hj
        · by_cases q : j = i
          · rw [if_pos q] at m
            obtain ⟨m1, m2⟩ := sub' a m
            rw [gu_out m2]
            exact rs.out i a m1
          · rw [if_neg q] at m
            rw [gu_out fun m2 => q (rs.dj j i a m (s1 a m2))]
            exact rs.out j a m
        · show (if j = i then r' else fp j).Nodup
          by_cases q : j = i
          · rw [if_pos q]; exact n'
          · rw [if_neg q]; exact rs.nd j
        · by_cases q1 : j = i
          · rw [if_pos q1] at m1
            by_cases q2 : k = i
            · rw [q1, q2]
            · rw [if_neg q2] at m2
              exact absurd (rs.dj k i a m2 (sub' a m1).1) q2
          · rw [if_neg q1] at m1
            by_cases q2 : k = i
            · rw [if_pos q2] at m2
              exact absurd (rs.dj j i a m1 (sub' a m2).1) q1
            · rw [if_neg q2] at m2; exact rs.dj j k a m1 m2
        · have m' : a ∈ (if j = i then r' else fp j) := m
          by_cases q : j = i
          · rw [if_pos q] at m'; rw [q]; exact (sub' a m').1
          · rw [if_neg q] at m'; exact m'
end
section
variable {X : Cx} {W : WX} {a b c e o : Expr} {es : List Expr} {pos apos cpos : Pos} {st : Stmt} {sts : List Stmt}
/-- a step of the proof alone -/
def vFrz (i : Nat) (ps : List Pst) : ST := fun env => match frzE env i ps with
  | some e => .nx e
  | none => .bad
theorem vss_frz {i : Nat} {ps : List Pst} {g : ST} (h : VSs X W sts g) : VSs X W sts (vSeq (vFrz i ps) g) := pss_imp h fun D σ H ⟨G, env, fp, pv, rs, w⟩ => by
  unfold vSeq vFrz at w
  cases z : frzE env i ps with
  | none => rw [z] at w; exact w.elim
  | some e1 =>
    rw [z] at w
    obtain ⟨r, fp', rs', hr, hs⟩ := rs.frz z
    refine ⟨_, e1, fp', pv, rs', w.step ⟨gu_same rs.sub, fun b o h _ => h, fun a o q => ?_, fun j a m => .inr ⟨j, hs j a m⟩, fun b h => h, fun a C dx vs h => ⟨vs, h, fun _ _ _ q => q⟩⟩⟩
    by_cases m : a ∈ r
    · exact .inr (.inr ⟨i, hr a m⟩)
    · rw [gu_out m] at q; exact .inl q
/-! ### frozen for one reading -/
def flatS : SV → Bool
  | .f (.d p) => flatP p
  | .own xs => xs.all fun x => match x with
    | .f (.d p) => flatP p
    | _ => false
  | _ => false
def flatR (s : SV) : Res SV := if flatS s = true then .ok s else .bad
def vTmp (i : Nat) (ps : List Pst) (f : FO) : FO := fun env => match frzE env i ps with
  | some e => (f e).bind flatR
  | none => .bad
theorem Dq.flat_any {K : PySem.W.Frag} {G G' : Hp} {v : V} {p : PyData} (h : Dq K G v p) (f : flatP p = true) : Dq K G' v p := by
  cases h with
  | non => exact .non
  | bl b => exact .bl b
  | int b => exact .int b
  | str b => exact .str b
  | lst _ _ => cases f
  | tup _ _ => cases f
theorem Ows.flat_any {K : PySem.W.Frag} {mg : Str → Option Value} {G G' H H' : Hp} : ∀ {vs : List V} {xs : List SV} {r : List Addr}, Ows K mg G H vs xs r → (xs.all fun x => match x with | .f (.d p) => flatP p | _ => false) = true → Ows K mg G' H' vs xs [] ∧ r = []
  | _, _, _, .nil, _ => ⟨.nil, rfl⟩
  | _, _, _, @Ows.cons _ _ _ _ v vs x xs r rs h t, f => by
    rw [List.all_cons, Bool.and_eq_true] at f
    obtain ⟨t', e⟩ := Ows.flat_any (G' := G') (H' := H') t f.2
    cases x with
    | f y =>
      cases y with
      | d p =>
        cases h with
        | f h =>
          cases h with
          | d h =>
            refine ⟨?_, by rw [e]; rfl⟩
            exact .cons (r := []) (rs := []) (.f (.d (h.flat_any f.1))) t'
      | ob _ _ => exact absurd f.1 (by simp)
      | sc _ => exact absurd f.1 (by simp)
    | own _ => exact absurd f.1 (by simp)
    | otup _ => exact absurd f.1 (by simp)
    | obj _ _ => exact absurd f.1 (by simp)
theorem Ow.flat_any {K : PySem.W.Frag} {mg : Str → Option Value} {G G' H : Hp} {v : V} {s : SV} {r : List Addr} (h : Ow K mg G H v s r) (f : flatS s = true) : Ow K mg G' H v s r := by
  cases s with
  | f y =>
    cases y with
    | d p => cases h with | f h => cases h with | d h => exact .f (.d (h.flat_any f))
    | ob _ _ => cases f
    | sc _ => cases f
  | own xs =>
    cases h with
    | @own a vs _ r hH of =>
      obtain ⟨t, e⟩ := of.flat_any (G' := G') (H' := H) f
      rw [e]
      exact .own hH t
  | otup _ => cases f
  | obj _ _ => cases f
theorem vo_tmp (i : Nat) (ps : List Pst) {f : FO} (h : VO X W e f) : VO X W e (vTmp i ps f) := pe_imp h fun σ H Q ⟨G, env, fp, pv, rs, w⟩ => by
  unfold vTmp at w
  cases z : frzE env i ps with
  | none => rw [z] at w; exact w.elim
  | some e1 =>
    rw [z] at w
    obtain ⟨r0, fp', rs', hr, hs⟩ := rs.frz z
    refine ⟨_, e1, fp', pv, rs', PostR.seq w fun s w v G1 H1 r ex ow nd fr => ?_⟩
    unfold flatR at w
    by_cases hf : flatS s = true
    · rw [if_pos hf] at w
      exact w v G H1 r ⟨Same.refl _, ex.h, rs.sub.trans ex.h, fun _ _ e => .inl e⟩ (ow.flat_any hf) nd fun a m => ⟨(fr a m).1, none_back rs.sub (fr a m).1⟩
    · rw [if_neg hf] at w; exact w.elim
/-! ### an effect's answer, frozen -/
def frE (f : FE) : FE := fun env => (f env).bind fun s e => match s.frz? with
  | some x => .ok (.f x) e
  | none => .bad
theorem ve_fr {f : FE} (h : VE X W e f) : VE X W e (frE f) := pe_imp h fun σ H Q ⟨G, env, fp, pv, rs, w⟩ => ⟨G, env, fp, pv, rs, PostO.impS (PostO.seq0 w) fun s e' G1 H1 fp1 st rs1 ⟨_, _, w1⟩ v r ow nd fr => by
  cases z : s.frz? with
  | none => rw [z] at w1; exact w1.elim
  | some x =>
    rw [z] at w1
    have g : Same G1 (gu G1 H1 r) := gu_same rs1.sub
    refine w1 (gu G1 H1 r) H1 fp1 ⟨st.g.trans g, st.fr, fun a o q => ?_, st.f, st.trk, st.fld⟩ (rs1.grow fun a m => (fr a m).2.1) v [] (.f (ow.frozenF g (fun a m o e => by rw [gu_in m]; exact e) z)) .nil fun a m => by cases m
    by_cases m : a ∈ r
    · rcases (fr a m).2.2 with k | ⟨j, k⟩
      · exact .inr (.inl k)
      · exact .inr (.inr ⟨j, k⟩)
    · rw [gu_out m] at q
      exact st.n a o q⟩
/-! ### displays of trees -/
def tAO (K : PySem.W.Frag) (mg : Str → Option Value) (W : WX) (f : Env → Res (List SV)) : TA := fun σ H Q => ∃ G env fp pv, RS K mg G σ env H fp pv ∧
  PostR mg W σ H (fun xs => ∀ vs G' H' r, Ext G H G' H' → Ows K mg G' H' vs xs r → r.Nodup → (∀ a ∈ r, H a = none ∧ G' a = none) → Q vs H') (f env)
abbrev VAO (X : Cx) (W : WX) (es : List Expr) (f : Env → Res (List SV)) : Prop := PA X es (tAO X.K X.mg W f)
def oN : Env → Res (List SV) := fun _ => .ok []
def oC (f : FO) (g : Env → Res (List SV)) : Env → Res (List SV) := fun env => (f env).bind fun x => (g env).bind fun xs => .ok (x :: xs)
theorem vao_nil : VAO X W [] oN := pa_imp pa_nil fun σ H Q ⟨G, env, fp, pv, rs, w⟩ => w [] G H [] (Ext.refl rs.sub) .nil .nil fun _ m => by cases m
theorem vao_cons {f : FO} {g : Env → Res (List SV)} (ha : VO X W e f) (hr : VAO X W es g) (hs : starEach (e :: es) X.env = (false, eval e X.env) :: starEach es X.env) : VAO X W (e :: es) (oC f g) :=
  pa_imp (pa_cons ha hr hs) fun σ H Q ⟨G, env, fp, pv, rs, w⟩ => ⟨G, env, fp, pv, rs, PostR.seq w fun x w v G1 H1 r e1 ow nd fr => ⟨G1, env, fp, pv, rs.ext e1, PostR.imp (PostR.seq (k := fun y => PostR X.mg W σ H _ (Res.ok (x :: y))) w fun y w => w) e1.h fun xs w vs G2 H2 r2 e2 ow2 nd2 fr2 => by
    refine w (v :: vs) G2 H2 (r ++ r2) (e1.trans e2) (.cons (ow.same e2.g e2.h) ow2) (List.nodup_append.mpr ⟨nd, nd2, fun a m1 b m2 q => ?_⟩) fun a m => ?_
    · subst q
      obtain ⟨ob, h1⟩ := ow.there a m1
      rw [(fr2 a m2).1] at h1; cases h1
    · rcases List.mem_append.mp m with m | m
      · refine ⟨(fr a m).1, ?_⟩
        cases q : G2 a with
        | none => rfl
        | some ob =>
          rcases e2.n a ob q with k | k
          · rw [(fr a m).2] at k; cases k
          · obtain ⟨ob2, h1⟩ := ow.there a m
            rw [h1] at k; cases k
      · exact ⟨none_back e1.h (fr2 a m).1, (fr2 a m).2⟩⟩⟩
noncomputable def vLstO (g : Env → Res (List SV)) : FO := fun env => (g env).bind fun xs => cIf (xs.length ≤ 16777216) (.ok (.own xs)) .bad
noncomputable def vTupO (g : Env → Res (List SV)) : FO := fun env => (g env).bind fun xs => cIf (xs.length ≤ 16777216) (.ok (.otup xs)) .bad
theorem new_own {K : PySem.W.Frag} {mg : Str → Option Value} {G1 H H1 : Hp} {vs : List V} {xs : List SV} {r : List Addr} {o : HO} {s : SV} {Q : VK} {G : Hp} (ex : Ext G H G1 H1) (t : Ows K mg G1 H1 vs xs r) (nd : r.Nodup) (fr : ∀ a ∈ r, H a = none ∧ G1 a = none)
    (mk : ∀ {p : Addr} {H' : Hp}, H' p = some o → Ows K mg G1 H' vs xs r → Ow K mg G1 H' (.ref p) s (p :: r)) (q : jO K mg Q G H s) : ∀ p, H1 p = none → Q (.ref p) (upd H1 p o) := fun p hp => by
  have np : p ∉ r := fun m => by
    obtain ⟨ob, h⟩ := t.there p m
    rw [hp] at h; cases h
  have e2 : Ext G1 H1 G1 (upd H1 p o) := Ext.newO ex.s hp
  refine q _ G1 _ (p :: r) (ex.trans e2) (mk upd_same (t.mono (Same.refl _) fun a m => upd_ne fun z => np (by rw [← z]; exact m))) (List.nodup_cons.mpr ⟨np, nd⟩) fun a m => ?_
  rcases List.mem_cons.mp m with rfl | m
  · exact ⟨none_back ex.h hp, none_back ex.s hp⟩
  · exact fr a m
theorem vo_lstO {g : Env → Res (List SV)} (h : VAO X W es g) : VO X W (.List es pos) (vLstO g) := pe_imp (pe_lst h) fun σ H Q ⟨G, env, fp, pv, rs, w⟩ => ⟨G, env, fp, pv, rs, PostR.seq w fun xs w vs G1 H1 r e1 ow nd fr => by
  by_cases h : xs.length ≤ 16777216
  · rw [cIf_pos h] at w
    exact ⟨by rw [ow.len, sl_eq]; exact h, new_own e1 ow nd fr (fun h t => .own h t) w⟩
  · rw [cIf_neg h] at w; exact w.elim⟩
theorem vo_tupO {g : Env → Res (List SV)} {x1} (h : VAO X W es g) : VO X W (.Tuple es x1 pos) (vTupO g) := pe_imp (pe_tup h) fun σ H Q ⟨G, env, fp, pv, rs, w⟩ => ⟨G, env, fp, pv, rs, PostR.seq w fun xs w vs G1 H1 r e1 ow nd fr => by
  by_cases h : xs.length ≤ 16777216
  · rw [cIf_pos h] at w
    exact ⟨by rw [ow.len, sl_eq]; exact h, new_own e1 ow nd fr (fun h t => .otup h t) w⟩
  · rw [cIf_neg h] at w; exact w.elim⟩
/-! ### x, y = a, b -/
def par1 (i j : Nat) (e : Env) : List FV → Flow
  | [x, y] => match setS e i (.va (.f x)) with
    | .nx e => setS e j (.va (.f y))
    | r => r
  | _ => .bad
def vPar (i j : Nat) (f : Env → Res (List FV)) : ST := fun e => ofR (f e) e (par1 i j e)
theorem vs_par {i j : Nat} {x y : Str} {f : Env → Res (List FV)} {px py pt pt2 : Pos} {kt k2} (hc : X.calm = true) (hN : X.N.Nodup) (hi : X.N[i]? = some x) (hj : X.N[j]? = some y) (hij : i ≠ j) (hx : X.env.scope.names.lookup x = some .local) (hy : X.env.scope.names.lookup y = some .local)
    (hw : swappedStores [.Tuple [.Name x px, .Name y py] kt pt] (.Tuple [a, b] k2 pt2) X.env = pure (some [x, y])) (h : VAN X W 2 [a, b] f) : VS X W (.Assign [.Tuple [.Name x px, .Name y py] kt pt] (.Tuple [a, b] k2 pt2) pos) (vPar i j f) :=
  ps_imp (ps_par hc hN hi hj hij hx hy h hw) fun D σ H ⟨G, env, fp, pv, rs, w⟩ => ⟨G, env, fp, pv, rs, Post.ofR rs w fun xs w vs G1 H1 e1 q1 hl => by
    match xs, hl, q1, w with
    | [p, q], _, q1, w =>
      cases q1 with
      | @cons v _ _ _ h1 q1 =>
      cases q1 with
      | @cons u _ _ _ h2 q1 =>
      cases q1
      refine ⟨v, u, rfl, ?_⟩
      have w1 : Post X.K X.mg W D G H fp pv (match setS env i (.va (.f p)) with | .nx e => setS e j (.va (.f q)) | r => r) := w
      unfold setS at w1
      by_cases c1 : canSet env i = true
      · rw [if_pos c1] at w1
        dsimp only at w1
        by_cases c2 : canSet (env.set i (.va (.f p))) j = true
        · rw [if_pos c2] at w1
          have rs1 := (rs.ext e1).set (canSet_lt c1) (.f h1) .nil (fun a m => by cases m)
          have rs2 := rs1.set (canSet_lt c2) (.f h2) .nil (fun a m => by cases m)
          refine w1 G1 _ H1 _ ((Stp.of_ext (fp := fp) e1).sub fun k b m => ?_) rs2
          have m' : b ∈ (if k = j then [] else if k = i then [] else fp k) := m
          by_cases hk : k = j
          · rw [if_pos hk] at m'; cases m'
          · rw [if_neg hk] at m'
            by_cases hk2 : k = i
            · rw [if_pos hk2] at m'; cases m'
            · rw [if_neg hk2] at m'; exact .inr ⟨k, m'⟩
        · rw [if_neg c2] at w1; exact w1.elim
      · rw [if_neg c1] at w1; exact w1.elim⟩
end
end VL

set_option Elab.async false
set_option linter.all false
set_option maxRecDepth 100000
set_option maxHeartbeats 4000000
namespace VL
open PySem PySem.Spec PyProof.Rows L2

/-! ### comprehensions with effects -/
/-- the comprehension's own names are gone, and what was only seen -/
def wipeD (e : Env) (vs : List Nat) : Env := (wipeE e vs).map dv
def noO {α : Type} : Out α → Out α
  | .ok a e => .ok a e
  | _ => .bad
theorem noO_ok {α : Type} {K : PySem.W.Frag} {mg : Str → Option Value} {W : WX} {σ : L2.St} {G H : Hp} {fp : Nat → List Addr} {pv : Nat → V} {k : α → Env → Hp → Hp → (Nat → List Addr) → Prop} {o : Out α}
    (h : match noO o with | .ok a e => ∀ G' H' fp', Stp G H fp G' H' fp' → RS K mg G' σ e H' fp' pv → k a e G' H' fp' | _ => False) : PostO K mg W σ G H fp pv k o := by
  cases o with
  | ok a e => exact h
  | err c => exact h.elim
  | bad => exact h.elim
def compLE (g : Tgt) (elt : FE) (vs : List Nat) : List PyData → Env → Out (List SV)
  | [], e => .ok [] e
  | x :: xs, e => match g x e with
    | none => .bad
    | some e1 => (noO (elt e1)).bind fun y e2 => (compLE g elt vs xs (wipeD e2 vs)).bind fun ys e3 => .ok (y :: ys) e3
noncomputable def vCompE (it : IT) (g : Tgt) (elt : FE) (vs : List Nat) : FE := fun env => oR (it env) fun items => cIf (items.length ≤ 16777216) ((compLE g elt vs items (wipeD env vs)).bind fun ys e => .ok (.own ys) e) .bad
section
variable {X : Cx} {W : WX} {a b c e tg : Expr} {es : List Expr} {pos apos cpos : Pos} {st : Stmt} {sts : List Stmt}
theorem wipeE_length (e : Env) : ∀ vs : List Nat, (wipeE e vs).length = e.length
  | [] => rfl
  | v :: vs => by show ((wipeE e vs).set v .no).length = _; rw [List.length_set, wipeE_length e vs]
theorem wipeE_no (e : Env) : ∀ (vs : List Nat) (j : Nat) (s : Slot), j ∈ vs → (wipeE e vs)[j]? = some s → s = .no
  | [], j, s, m, _ => by cases m
  | v :: vs, j, s, m, h => by
    have h' : ((wipeE e vs).set v .no)[j]? = some s := h
    by_cases q : j = v
    · subst q
      by_cases hl : j < (wipeE e vs).length
      · rw [List.getElem?_set_self hl] at h'
        exact (Option.some.inj h').symm
      · rw [List.getElem?_eq_none (by rw [List.length_set]; omega)] at h'; cases h'
    · rw [List.getElem?_set_ne (Ne.symm q)] at h'
      rcases List.mem_cons.mp m with z | z
      · exact absurd z q
      · exact wipeE_no e vs j s z h'
theorem wipe_get (σ : L2.St) : ∀ (vs : List Nat) (j : Nat), j ∉ vs → (L2.wipe σ vs)[j]? = σ[j]?
  | [], _, _ => rfl
  | v :: vs, j, m => by
    show ((L2.wipe σ vs).set v none)[j]? = _
    rw [List.getElem?_set_ne (fun q => m (by rw [← q]; exact List.mem_cons_self)), wipe_get σ vs j fun q => m (List.mem_cons_of_mem _ q)]
theorem RS.unwipe {K : PySem.W.Frag} {mg : Str → Option Value} {G H : Hp} {σ σ' : L2.St} {env : Env} {fp : Nat → List Addr} {pv : Nat → V} {vs : List Nat} (h : RS K mg G (L2.wipe σ' vs) (wipeE env vs) H fp pv) (e : L2.wipe σ' vs = L2.wipe σ vs) : RS K mg G σ (wipeE env vs) H fp pv where
  len := by rw [h.len, e, L2.wipe_length]
  rel := fun j s q => by
    have r := h.rel j s q
    by_cases m : j ∈ vs
    · have z := wipeE_no env vs j s m q
      subst z
      exact r
    · rw [e, wipe_get σ vs j m] at r
      exact r
  nil := h.nil
  sub := h.sub
  out := h.out
  nd := h.nd
  dj := h.dj
theorem RS.wipeF {K : PySem.W.Frag} {mg : Str → Option Value} {G H : Hp} {σ : L2.St} {env : Env} {fp : Nat → List Addr} {pv : Nat → V} (h : RS K mg G σ env H fp pv) : ∀ vs : List Nat, ∃ fp', RS K mg G (L2.wipe σ vs) (wipeE env vs) H fp' pv ∧ ∀ j a, a ∈ fp' j → a ∈ fp j
  | [] => ⟨fp, h, fun _ _ m => m⟩
  | v :: vs => by
    obtain ⟨fp', q, sb⟩ := RS.wipeF h vs
    refine ⟨_, q.ofSet v none, fun j a m => ?_⟩
    have m' : a ∈ (if j = v then [] else fp' j) := m
    by_cases hj : j = v
    · rw [if_pos hj] at m'; cases m'
    · rw [if_neg hj] at m'; exact sb j a m'
theorem RS.dvs {K : PySem.W.Frag} {mg : Str → Option Value} {G H : Hp} {σ : L2.St} {env : Env} {fp : Nat → List Addr} {pv : Nat → V} (h : RS K mg G σ env H fp pv) : RS K mg G σ (env.map dv) H fp pv where
  len := by rw [List.length_map]; exact h.len
  rel := fun j s q => by
    obtain ⟨t, ht, rfl⟩ := dv_get q
    have r := h.rel j t ht
    cases t with
    | vw s => exact r.1
    | no => exact r
    | va s => exact r
    | rf s => exact r
  nil := fun i hi => h.nil i (by rw [List.length_map] at hi; exact hi)
  sub := h.sub
  out := h.out
  nd := h.nd
  dj := h.dj
theorem wipeE_out (e : Env) (j : Nat) : ∀ vs : List Nat, j ∉ vs → (wipeE e vs)[j]? = e[j]?
  | [], _ => rfl
  | v :: vs, m => by
    show ((wipeE e vs).set v .no)[j]? = _
    rw [List.getElem?_set_ne (fun q => m (by rw [← q]; exact List.mem_cons_self)), wipeE_out e j vs fun q => m (List.mem_cons_of_mem _ q)]
theorem wipeD_wipe (e : Env) (vs : List Nat) : wipeE (wipeD e vs) vs = wipeD e vs := by
  apply List.ext_getElem?
  intro j
  by_cases m : j ∈ vs
  · by_cases hj : j < e.length
    · have l1 : j < (wipeE (wipeD e vs) vs).length := by rw [wipeE_length]; unfold wipeD; rw [List.length_map, wipeE_length]; exact hj
      have l2 : j < (wipeE e vs).length := by rw [wipeE_length]; exact hj
      have q1 := wipeE_no (wipeD e vs) vs j _ m (List.getElem?_eq_getElem l1)
      have q2 := wipeE_no e vs j _ m (List.getElem?_eq_getElem l2)
      rw [List.getElem?_eq_getElem l1, q1]
      unfold wipeD
      rw [List.getElem?_map, List.getElem?_eq_getElem l2, q2]
      rfl
    · rw [List.getElem?_eq_none (by rw [wipeE_length]; unfold wipeD; rw [List.length_map, wipeE_length]; omega), List.getElem?_eq_none (by unfold wipeD; rw [List.length_map, wipeE_length]; omega)]
  · rw [wipeE_out _ _ _ m]
theorem imp_compE {it : IT} {g : Tgt} {ts : List Nat} {elt : FE} {vs : List Nat} (hts : ∀ j ∈ ts, j ∈ vs) {σ : L2.St} {H : Hp} {Q : VK} (h : tE X.K X.mg W (vCompE it g elt vs) σ H Q) :
    tLc (tItF X.K X.mg W it) (tG X.K X.mg ts g) (tT X.K X.mg (fun _ _ _ _ => False) vYes) (tE X.K X.mg (fun _ _ _ _ => False) elt) vs σ H Q := by
  obtain ⟨G, env, fp, pv, rs, w⟩ := h
  refine ⟨G, env, fp, pv, rs, PostO.ofR rs w fun items w J G1 H1 e1 io D hD => ?_⟩
  by_cases hsz : items.length ≤ 16777216
  · rw [cIf_pos hsz] at w
    have rs1 := rs.ext e1
    obtain ⟨fw, rw0, sw⟩ := rs1.wipeF vs
    have rsw := (rw0.unwipe (σ := σ) rfl).dvs
    let Cst : Nat → Hp → Prop := fun i H2 => ∃ G2 env2 fp2 accV accS r, RS X.K X.mg G2 σ (wipeD env2 vs) H2 fp2 pv ∧ Stp G H fp G2 H2 fp2 ∧ Same G1 G2 ∧ H2 D = some (.lst accV) ∧ G2 D = none ∧ (∀ j, D ∉ fp2 j) ∧ Ows X.K X.mg G2 H2 accV accS r ∧ (D :: r).Nodup ∧
      (∀ a ∈ r, G2 a = none ∧ (∀ j, a ∉ fp2 j) ∧ (H a = none ∨ ∃ j, a ∈ fp j)) ∧ PostO X.K X.mg W σ G H fp pv (kE X.K X.mg Q H fp) ((compLE g elt vs (items.drop i) (wipeD env2 vs)).bind fun ys e => .ok (.own (accS ++ ys)) e) ∧ accV.length ≤ i
    have hD0 : H D = none := none_back e1.h hD
    have stw : Stp G H fp G1 H1 fw := (Stp.of_ext (fp := fp) e1).sub fun j b m => .inr ⟨j, sw j b m⟩
    have exD : Ext G1 H1 G1 (upd H1 D (.lst [])) := Ext.newO e1.s hD
    refine ⟨fun i m H2 => m + i = items.length ∧ Cst i H2, ⟨items.length, by omega, G1, env, fw, [], [], [], rsw.ext exD, stw.trans (Stp.of_ext exD), Same.refl _, upd_same, none_back e1.s hD, rsw.notin hD, .nil, (by simp), (fun a m => by cases m), w, Nat.zero_le _⟩, ?_⟩
    rintro i m H2 ⟨em, G2, env2, fp2, accV, accS, r, rs2, st2, gg2, hD2, hG2, nf2, ow2, nd2, fr2, w2, hl2⟩
    obtain ⟨hstop, hgo⟩ := io G2 H2 gg2 (gg2.trans rs2.sub) rs2.sub
    have ndD := List.nodup_cons.mp nd2
    by_cases hlt : i < items.length
    · right
      have ei : items[i]? = some items[i] := List.getElem?_eq_getElem hlt
      obtain ⟨go, yl⟩ := hgo i _ ei
      refine ⟨go, Cst (i + 1), fun H' hN => ⟨m - 1, by omega, by omega, hN⟩, fun x H3 hy => ?_⟩
      obtain ⟨G3, e3, d3⟩ := yl x H3 hy
      rw [List.drop_eq_getElem_cons hlt] at w2
      have rs3 := rs2.ext e3
      obtain ⟨f3, rw3, sw3⟩ := rs3.wipeF vs
      rw [wipeD_wipe] at rw3
      refine ⟨G3, wipeD env2 vs, f3, pv, items[i], rw3, d3, ?_⟩
      have w3 : PostO X.K X.mg W σ G H fp pv (kE X.K X.mg Q H fp) ((match g items[i] (wipeD env2 vs) with | none => Out.bad | some e1 => (noO (elt e1)).bind fun y e2 => (compLE g elt vs (items.drop (i + 1)) (wipeD e2 vs)).bind fun ys e3 => .ok (y :: ys) e3).bind fun ys e => .ok (.own (accS ++ ys)) e) := w2
      cases z : g items[i] (wipeD env2 vs) with
      | none => rw [z] at w3; exact w3.elim
      | some e4 =>
        rw [z] at w3
        dsimp only at w3
        intro σ4 fp4 h4 ho rs4
        refine ⟨(wipe_out ho vs hts).trans (wipe_wipe σ vs), G3, e4, fp4, pv, rs4, ?_⟩
        intro G5 H5 e5
        rw [if_pos rfl]
        refine ⟨G5, e4, fp4, pv, rs4.ext e5, noO_ok ?_⟩
        cases zo : elt e4 with
        | err c => rw [zo] at w3; exact w3.elim
        | bad => rw [zo] at w3; exact w3.elim
        | ok y e6 =>
          rw [zo] at w3
          intro G6 H6 fp6 st6 rs6 v r6 ow6 nd6 fr6
          have st5 : Stp G2 H2 fp2 G5 H5 fp4 := (Stp.of_ext (fp := fp2) (e3.trans e5)).sub fun j b m => by
            obtain ⟨k, q⟩ := h4 j b m
            exact .inr ⟨k, sw3 k b q⟩
          have st26 := st5.trans st6
          have hD6 : H6 D = some (.lst accV) := st26.fr D _ hD2 nf2
          have inF : ∀ j b, b ∈ fp6 j → H2 b = none ∨ ∃ k, b ∈ fp2 k := st26.f
          have nD6 : ∀ j, D ∉ fp6 j := fun j m => by
            rcases inF j D m with q | ⟨k, q⟩
            · rw [hD2] at q; cases q
            · exact nf2 k q
          have gD6 : G6 D = none := by
            cases q : G6 D with
            | none => rfl
            | some o =>
              rcases st26.n D o q with k | k | ⟨j, k⟩
              · rw [hG2] at k; cases k
              · rw [hD2] at k; cases k
              · exact absurd k (nf2 j)
          have keepR : ∀ b ∈ r, H6 b = H2 b := fun b m => by
            obtain ⟨o, ho⟩ := ow2.there b m
            rw [ho]; exact st26.fr b o ho (fr2 b m).2.1
          have rG6 : ∀ b ∈ r, G6 b = none := fun b m => by
            cases q : G6 b with
            | none => rfl
            | some o =>
              obtain ⟨u, hu⟩ := ow2.there b m
              rcases st26.n b o q with k | k | ⟨j, k⟩
              · rw [(fr2 b m).1] at k; cases k
              · rw [hu] at k; cases k
              · exact absurd k ((fr2 b m).2.1 j)
          have rF6 : ∀ b ∈ r, ∀ j, b ∉ fp6 j := fun b m j m2 => by
            rcases inF j b m2 with q | ⟨k, q⟩
            · obtain ⟨u, hu⟩ := ow2.there b m
              rw [hu] at q; cases q
            · exact (fr2 b m).2.1 k q
          have r6ne : ∀ b ∈ r6, b ≠ D ∧ b ∉ r := fun b m => by
            have h5 : H5 b = none ∨ ∃ j, b ∈ fp4 j := (fr6 b m).2.2
            have h2 : H2 b = none ∨ ∃ k, b ∈ fp2 k := by
              rcases h5 with q | ⟨j, q⟩
              · exact .inl (none_back (e3.trans e5).h q)
              · exact st5.f j b q
            refine ⟨fun q => ?_, fun q => ?_⟩
            · subst q
              rcases h2 with k | ⟨k, k'⟩
              · rw [hD2] at k; cases k
              · exact nf2 k k'
            · rcases h2 with k | ⟨k, k'⟩
              · obtain ⟨u, hu⟩ := ow2.there b q
                rw [hu] at k; cases k
              · exact (fr2 b q).2.1 k k'
          obtain ⟨f7, rw7, sw7⟩ := rs6.wipeF vs
          have rs7 := (rw7.unwipe (σ := σ) ((wipe_out ho vs hts).trans (wipe_wipe σ vs))).dvs
          have stg : Stp G H fp G6 H6 f7 := (st2.trans st26).sub fun j b m => (st2.trans st26).f j b (sw7 j b m)
          have nf7 : ∀ j, D ∉ f7 j := fun j m => nD6 j (sw7 j D m)
          have hH6D : H D = none := hD0
          have up : ∀ b, b ≠ D → (upd H6 D (.lst (accV ++ [v]))) b = H6 b := fun b hb => upd_ne hb
          refine ⟨accV, hD6, by rw [sl_eq]; omega, G6, e6, f7, accV ++ [v], accS ++ [y], r ++ (r6 ++ []), ?_, ?_, gg2.trans st26.g, upd_same, gD6, nf7, ?_, ?_, ?_, ?_, ?_⟩
          · refine ⟨rs7.len, fun j s q => ?_, rs7.nil, fun b o q => ?_, rs7.out, rs7.nd, rs7.dj⟩
            · have rr := rs7.rel j s q
              have ks : ∀ b ∈ f7 j, (upd H6 D (.lst (accV ++ [v]))) b = H6 b := fun b mb => up b fun z => nf7 j (by rw [← z]; exact mb)
              cases s with
              | no => exact rr
              | va s => obtain ⟨u, q1, q2⟩ := rr; exact ⟨u, q1, q2.mono (Same.refl _) ks⟩
              | rf s => obtain ⟨q1, q2⟩ := rr; exact ⟨q1, q2.mono (Same.refl _) ks⟩
              | vw s =>
                obtain ⟨u, _, hu⟩ := dv_get q
                cases u <;> cases hu
            · rw [up b fun z => by rw [z, gD6] at q; cases q]
              exact rs7.sub b o q
          · refine ⟨stg.g, fun b o hb nb => ?_, stg.n, stg.f, fun b hb => ?_, fun b C dx ws hb => ?_⟩
            · rw [up b fun z => by rw [z, hH6D] at hb; cases hb]
              exact stg.fr b o hb nb
            · by_cases z : b = D
              · rw [z, upd_same] at hb; cases hb
              · rw [up b z] at hb; exact stg.trk b hb
            · obtain ⟨ws', h1, h2⟩ := stg.fld b C dx ws hb
              exact ⟨ws', by rw [up b fun z => by rw [z, hH6D] at hb; cases hb]; exact h1, h2⟩
          · refine (ow2.mono st26.g fun b mb => ?_).append (.cons (ow6.mono (Same.refl _) fun b mb => up b (r6ne b mb).1) .nil)
            rw [up b fun z => ndD.1 (by rw [← z]; exact mb)]
            exact keepR b mb
          · rw [List.append_nil]
            refine List.nodup_cons.mpr ⟨fun mb => ?_, List.nodup_append.mpr ⟨ndD.2, nd6, fun b m1 b' m2 q => ?_⟩⟩
            · rcases List.mem_append.mp mb with mb | mb
              · exact ndD.1 mb
              · exact (r6ne D mb).1 rfl
            · subst q
              exact (r6ne b m2).2 m1
          · rw [List.append_nil]
            intro b mb
            rcases List.mem_append.mp mb with mb | mb
            · exact ⟨rG6 b mb, fun j q => rF6 b mb j (sw7 j b q), (fr2 b mb).2.2⟩
            · refine ⟨(fr6 b mb).1, fun j q => (fr6 b mb).2.1 j (sw7 j b q), ?_⟩
              rcases (fr6 b mb).2.2 with q | ⟨j, q⟩
              · exact .inl (st2.trk b (none_back (e3.trans e5).h q))
              · rcases st5.f j b q with k | ⟨k, k'⟩
                · exact .inl (st2.trk b k)
                · exact st2.f k b k'
          · have w4 : PostO X.K X.mg W σ G H fp pv (kE X.K X.mg Q H fp) (((compLE g elt vs (items.drop (i + 1)) (wipeD e6 vs)).bind fun ys e3 => .ok (y :: ys) e3).bind fun ys e => .ok (.own (accS ++ ys)) e) := w3
            cases zc : compLE g elt vs (items.drop (i + 1)) (wipeD e6 vs) with
            | ok ys e7 =>
              rw [zc] at w4
              have w5 : PostO X.K X.mg W σ G H fp pv (kE X.K X.mg Q H fp) (Out.ok (.own (accS ++ (y :: ys))) e7) := w4
              have e8 : accS ++ (y :: ys) = accS ++ [y] ++ ys := by rw [List.append_assoc]; rfl
              rw [e8] at w5
              exact w5
            | err c => rw [zc] at w4; exact w4
            | bad => rw [zc] at w4; exact w4
          · rw [List.length_append]
            show accV.length + 1 ≤ i + 1
            omega
    · left
      have ei : items.drop i = [] := List.drop_eq_nil_iff.mpr (by omega)
      rw [ei] at w2
      have w3 : PostO X.K X.mg W σ G H fp pv (kE X.K X.mg Q H fp) (Out.ok (.own (accS ++ [])) (wipeD env2 vs)) := w2
      rw [List.append_nil] at w3
      refine ⟨hstop i (by omega), w3 G2 H2 fp2 st2 rs2 (.ref D) (D :: r) (.own hD2 ow2) nd2 fun a m => ?_⟩
      rcases List.mem_cons.mp m with rfl | m
      · exact ⟨hG2, nf2, .inl hD0⟩
      · exact fr2 a m
  · rw [cIf_neg hsz] at w; exact w.elim
theorem ve_compE {it : IT} {g : Tgt} {ts : List Nat} {elt : FE} {own : List (Str × Nat)} {el : Expr} {scope : Scope} (hc : X.calm = true) (hN : X.N.Nodup) (hi : VIF X W tg e it) (ok : BlkOk X.N X.env.scope scope own)
    (hg : ∀ (s : Shared) (H : Hp) (C : Addr) (cl : List (Str × Addr)) (fp : List Addr), VG (X.blk s H scope (compEnvC scope cl C X.env) fp) ts tg g)
    (he : ∀ (s : Shared) (H : Hp) (C : Addr) (cl : List (Str × Addr)) (fp : List Addr), VE (X.blk s H scope (compEnvC scope cl C X.env) fp) (fun _ _ _ _ => False) el elt)
    (hts : ∀ j ∈ ts, j ∈ own.map (·.2)) (hs : ∀ x, foldedSetIterable e X.env x = pure x := by intro _; rfl) : VE X W (.ListComp el [⟨tg, e, [], 0⟩] scope pos) (vCompE it g elt (own.map (·.2))) :=
  pe_imp (pe_lc hc hN hi ok hg (fun _ _ _ _ _ => vts_nil) he hs) fun σ H Q h => imp_compE hts h
theorem imp_frE {f : FE} {σ : L2.St} {H : Hp} {Q : VK} (h : tE X.K X.mg W (frE f) σ H Q) : tE X.K X.mg W f σ H Q := by
  obtain ⟨G, env, fp, pv, rs, w⟩ := h
  refine ⟨G, env, fp, pv, rs, PostO.impS (PostO.seq0 w) fun s e' G1 H1 fp1 st rs1 ⟨_, _, w1⟩ v r ow nd fr => ?_⟩
  cases z : s.frz? with
  | none => rw [z] at w1; exact w1.elim
  | some x =>
    rw [z] at w1
    have g : Same G1 (gu G1 H1 r) := gu_same rs1.sub
    refine w1 (gu G1 H1 r) H1 fp1 ⟨st.g.trans g, st.fr, fun a o q => ?_, st.f, st.trk, st.fld⟩ (rs1.grow fun a m => (fr a m).2.1) v [] (.f (ow.frozenF g (fun a m o e => by rw [gu_in m]; exact e) z)) .nil fun a m => by cases m
    by_cases m : a ∈ r
    · rcases (fr a m).2.2 with k | ⟨j, k⟩
      · exact .inr (.inl k)
      · exact .inr (.inr ⟨j, k⟩)
    · rw [gu_out m] at q
      exact st.n a o q
theorem vs_setLcE {i : Nat} {y : Str} {py spos : Pos} {it : IT} {g : Tgt} {ts : List Nat} {elt : FE} {own : List (Str × Nat)} {el : Expr} {scope : Scope} (hc : X.calm = true) (hN : X.N.Nodup) (hy : X.N[i]? = some y) (hyl : X.env.scope.names.lookup y = some .local)
    (hsw : swapsWith (.ListComp el [⟨tg, e, [], 0⟩] scope pos) (some (.Name y py)) spos.line X.env = pure true) (hi : VIF X W tg e it) (ok : BlkOk X.N X.env.scope scope own)
    (hg : ∀ (s : Shared) (H : Hp) (C : Addr) (cl : List (Str × Addr)) (fp : List Addr), VG (X.blk s H scope (compEnvC scope cl C X.env) fp) ts tg g)
    (he : ∀ (s : Shared) (H : Hp) (C : Addr) (cl : List (Str × Addr)) (fp : List Addr), VE (X.blk s H scope (compEnvC scope cl C X.env) fp) (fun _ _ _ _ => False) el elt)
    (hts : ∀ j ∈ ts, j ∈ own.map (·.2)) (hs : ∀ x, foldedSetIterable e X.env x = pure x := by intro _; rfl) : VS X W (.Assign [.Name y py] (.ListComp el [⟨tg, e, [], 0⟩] scope pos) spos) (vSetE i (vCompE it g elt (own.map (·.2)))) :=
  ps_imp (ps_setLc hc hN hy hyl hsw hi ok hg (fun _ _ _ _ _ => vts_nil) he hs) fun D σ H h => imp_compE hts (imp_setE h)
theorem vs_setLcEF {i : Nat} {y : Str} {py spos : Pos} {it : IT} {g : Tgt} {ts : List Nat} {elt : FE} {own : List (Str × Nat)} {el : Expr} {scope : Scope} (hc : X.calm = true) (hN : X.N.Nodup) (hy : X.N[i]? = some y) (hyl : X.env.scope.names.lookup y = some .local)
    (hsw : swapsWith (.ListComp el [⟨tg, e, [], 0⟩] scope pos) (some (.Name y py)) spos.line X.env = pure true) (hi : VIF X W tg e it) (ok : BlkOk X.N X.env.scope scope own)
    (hg : ∀ (s : Shared) (H : Hp) (C : Addr) (cl : List (Str × Addr)) (fp : List Addr), VG (X.blk s H scope (compEnvC scope cl C X.env) fp) ts tg g)
    (he : ∀ (s : Shared) (H : Hp) (C : Addr) (cl : List (Str × Addr)) (fp : List Addr), VE (X.blk s H scope (compEnvC scope cl C X.env) fp) (fun _ _ _ _ => False) el elt)
    (hts : ∀ j ∈ ts, j ∈ own.map (·.2)) (hs : ∀ x, foldedSetIterable e X.env x = pure x := by intro _; rfl) : VS X W (.Assign [.Name y py] (.ListComp el [⟨tg, e, [], 0⟩] scope pos) spos) (vSetE i (frE (vCompE it g elt (own.map (·.2))))) :=
  ps_imp (ps_setLc hc hN hy hyl hsw hi ok hg (fun _ _ _ _ _ => vts_nil) he hs) fun D σ H h => imp_compE hts (imp_frE (imp_setE h))

/-! ### {"a": x, "b": y, "c": z}.get(k, d) -/
def dg3 (k1 k2 k3 : Str) (x1 x2 x3 y : FV) : PyData → Res FV
  | .str s => .ok (if s = k1 then x1 else if s = k2 then x2 else if s = k3 then x3 else y)
  | _ => .bad
def vDG3 (k1 k2 k3 : Str) (f1 f2 f3 : FP) (g : FD) (d : FP) : FP := fun env => (f1 env).bind fun x1 => (f2 env).bind fun x2 => (f3 env).bind fun x3 => (g env).bind fun s => (d env).bind fun y => dg3 k1 k2 k3 x1 x2 x3 y s
theorem getK3 {k1 k2 k3 s : Str} {v1 v2 v3 : V} (n12 : k1 ≠ k2) (n13 : k1 ≠ k3) (n23 : k2 ≠ k3) : valV (mergeK [] [((.inr k1 : Key), v1), (.inr k2, v2), (.inr k3, v3)]) (.inr s : Key) = if s = k1 then some v1 else if s = k2 then some v2 else if s = k3 then some v3 else none := by
  have e : mergeK [] [((.inr k1 : Key), v1), (.inr k2, v2), (.inr k3, v3)] = [((.inr k1 : Key), v1), (.inr k2, v2), (.inr k3, v3)] := by
    simp [mergeK, putK, n12, n13, n23]
  rw [e]
  by_cases h1 : s = k1
  · rw [if_pos h1, valV_pos (by rw [h1])]
  · rw [if_neg h1, valV_neg (fun q => h1 (Sum.inr.inj q).symm)]
    by_cases h2 : s = k2
    · rw [if_pos h2, valV_pos (by rw [h2])]
    · rw [if_neg h2, valV_neg (fun q => h2 (Sum.inr.inj q).symm)]
      by_cases h3 : s = k3
      · rw [if_pos h3, valV_pos (by rw [h3])]
      · rw [if_neg h3, valV_neg (fun q => h3 (Sum.inr.inj q).symm)]
        rfl
theorem vp_dg3 {k1 k2 k3 : Str} {f1 f2 f3 d : FP} {g : FD} {e1 e2 e3 f : Expr} {j1 j2 j3 : Nat} {p1 p2 p3 dpos : Pos} (hu : X.A.units + 1 < cLine) (h1 : VP X W e1 f1) (h2 : VP X W e2 f2) (h3 : VP X W e3 f3) (he : VD X W e g) (hf : VP X W f d) (n12 : k1 ≠ k2) (n13 : k1 ≠ k3) (n23 : k2 ≠ k3)
    (m : M2 X (.Dict [some (.Constant (.str k1) j1 p1), some (.Constant (.str k2) j2 p2), some (.Constant (.str k3) j3 p3)] [e1, e2, e3] dpos) "get" apos e f cpos) :
    VP X W (.Call (.Attribute (.Dict [some (.Constant (.str k1) j1 p1), some (.Constant (.str k2) j2 p2), some (.Constant (.str k3) j3 p3)] [e1, e2, e3] dpos) "get" apos) [e, f] [] cpos) (vDG3 k1 k2 k3 f1 f2 f3 g d) :=
  pe_imp (pe_dget2 hu (pe_disp (pps_cons pe_str h1 (pps_cons pe_str h2 (pps_cons pe_str h3 pps_nil))) rfl rfl (by simp) (by simp)) he hf m) fun σ H Q ⟨G, env, fp, pv, rs, w⟩ p hp => by
    have e0 : Ext G H G (upd H p (.dK [])) := Ext.newO rs.sub hp
    refine ⟨G, env, fp, pv, rs.ext e0, PostR.imp (PostR.seq (k := fun x1 => PostR X.mg W σ H _ ((f2 env).bind _)) w fun y w => w) e0.h fun x1 w v1 G1 H1 ex1 q1 => ?_⟩
    have a1 := e0.trans ex1
    refine ⟨G1, env, fp, pv, rs.ext a1, PostR.imp (PostR.seq (k := fun x2 => PostR X.mg W σ H _ ((f3 env).bind _)) w fun y w => w) a1.h fun x2 w v2 G2 H2 ex2 q2 => ?_⟩
    have a2 := a1.trans ex2
    refine ⟨G2, env, fp, pv, rs.ext a2, PostR.imp (PostR.seq (k := fun x3 => PostR X.mg W σ H _ ((g env).bind _)) w fun y w => w) a2.h fun x3 w v3 G3 H3 ex3 q3 => ?_⟩
    have a3 := a2.trans ex3
    have hp3 : H3 p = some (.dK []) := ex3.h _ _ (ex2.h _ _ (ex1.h _ _ upd_same))
    have gp3 : G3 p = none := by
      cases q : G3 p with
      | none => rfl
      | some o =>
        rcases ((ex1.trans ex2).trans ex3).n p o q with k | k
        · have := rs.sub _ _ k
          rw [hp] at this; cases this
        · rw [upd_same] at k; cases k
    refine ⟨hp3, [((.inr k1 : Key), v1), (.inr k2, v2), (.inr k3, v3)], rfl, by simp, p, rfl, ?_⟩
    let kvs := mergeK [] [((.inr k1 : Key), v1), (.inr k2, v2), (.inr k3, v3)]
    have a4 : Ext G H G3 (upd H3 p (.dK kvs)) := ⟨a3.g, fun b o h => by
      rw [upd_ne (ne_of_none h hp)]; exact a3.h b o h, fun b o h => by
      rw [upd_ne (fun q => by rw [q, gp3] at h; cases h)]; exact a3.s b o h, fun b o h => a3.n b o h⟩
    refine ⟨.inl ⟨kvs, .inl upd_same⟩, G3, env, fp, pv, rs.ext a4, PostR.imp (PostR.seq (k := fun s => PostR X.mg W σ H _ ((d env).bind _)) w fun y w => w) a4.h fun s w kv G4 H4 ex4 q4 => ?_⟩
    have a5 := a4.trans ex4
    refine ⟨G4, env, fp, pv, rs.ext a5, PostR.imp (PostR.seq (k := fun y => PostR X.mg W σ H _ (dg3 k1 k2 k3 x1 x2 x3 y s)) w fun y w => w) a5.h fun y w dv' G5 H5 ex5 q5 => ?_⟩
    have a6 := a5.trans ex5
    have hp5 : H5 p = some (.dK kvs) := ex5.h _ _ (ex4.h _ _ upd_same)
    cases s with
    | str s =>
      have ek := q4.str
      subst ek
      refine ⟨valV kvs (.inr s), .inl ⟨kvs, .inr s, .inl hp5, rfl, rfl⟩, ?_⟩
      have w' : ∀ v G' H', Ext G H G' H' → Fq X.K X.mg G' v (if s = k1 then x1 else if s = k2 then x2 else if s = k3 then x3 else y) → Q v H' := w
      have g13 : Same G1 G5 := (((ex2.g.trans ex3.g).trans ex4.g).trans ex5.g)
      have gv : valV kvs (.inr s : Key) = if s = k1 then some v1 else if s = k2 then some v2 else if s = k3 then some v3 else none := getK3 n12 n13 n23
      rw [gv]
      refine w' _ G5 H5 a6 ?_
      by_cases c1 : s = k1
      · rw [if_pos c1, if_pos c1]; exact q1.mono g13
      · rw [if_neg c1, if_neg c1]
        by_cases c2 : s = k2
        · rw [if_pos c2, if_pos c2]; exact q2.mono ((ex3.g.trans ex4.g).trans ex5.g)
        · rw [if_neg c2, if_neg c2]
          by_cases c3 : s = k3
          · rw [if_pos c3, if_pos c3]; exact q3.mono (ex4.g.trans ex5.g)
          · rw [if_neg c3, if_neg c3]; exact q5
    | none => exact w.elim
    | bool _ => exact w.elim
    | int _ => exact w.elim
    | list _ => exact w.elim
    | tuple _ => exact w.elim
    | dict _ => exact w.elim
end
end VL

set_option Elab.async false
set_option linter.all false
set_option maxRecDepth 100000
set_option maxHeartbeats 4000000
namespace VL
open PySem PySem.Spec PyProof.Rows L2

/-- Table.__init__ -/
noncomputable def B_Table___init__ : ST := (vSeq (vIfS (vOrT (toT (vCmp .notin (vVarD 1) (toD (vC (.tuple (([5, 7, 11, 13, 17, 19, 23, 29, 31] : List Int).map .int)))))) (vOrT (vNotT (toT (vChain .le .le (toD (vC (.int 3))) (vVarD 2) (toD (vC (.int 7)))))) (toT (vCmp .ge (vVarD 2) (vVarD 1))))) (vRaise "BadTable") vSkip)
  (vSeq (vIfS (vOrT (vNotT (toT (vChain .le .le (toD (vC (.int 1))) (vVarD 3) (toD (vC (.int 2)))))) (toT (vCmp .ge (frD (v2 mulV (toD (vC (.int 2))) (vVarD 3))) (vVarD 2)))) (vRaise "BadTable") vSkip)
  (vSeq (vSetF "Table" 0 "prime" (unO (vVar 1)))
  (vSeq (vSetF "Table" 0 "hands" (unO (vVar 2)))
  (vSetF "Table" 0 "few" (unO (vVar 3)))))))
noncomputable def S_Table___init__ : Fn := mkFn 0 B_Table___init__

/-- _law_cell_at -/
noncomputable def B__law_cell_at : ST := (vSeq (vIfS (toT (vCmp .lt (vVarD 1) (toD (vLenS (vVar 0))))) (vRetP (ixS (vVar 0) (vVarD 1))) vSkip)
  (vRetP (vC (.int 0))))
noncomputable def S__law_cell_at : Fn := mkFn 0 B__law_cell_at

/-- _law_whole -/
noncomputable def B__law_whole : ST := (vRetP (vAnd (v1 (fun y => iB (isI .int y)) (vVarD 0)) (vNot (v1 (fun y => iB (isI .bool y)) (vVarD 0)))))
noncomputable def S__law_whole : Fn := mkFn 0 B__law_whole

/-- _law_due -/
noncomputable def B__law_due : ST := (vSeq (vIfS (toT (vCmp .notin (vVarD 0) (frD (vLst (vCons (toD (vC (.int 5))) (vCons (toD (vC (.int 7))) (vCons (toD (vC (.int 11))) (vCons (toD (vC (.int 13))) (vCons (toD (vC (.int 17))) (vCons (toD (vC (.int 19))) (vCons (toD (vC (.int 23))) (vCons (toD (vC (.int 29))) (vCons (toD (vC (.int 31))) vNil))))))))))))) (vRetP (vC (.bool false))) vSkip)
  (vRetP (vAnd (vChain .le .le (toD (vC (.int 3))) (vVarD 1) (toD (vC (.int 7)))) (vAnd (vCmp .lt (vVarD 1) (vVarD 0)) (vAnd (vChain .le .le (toD (vC (.int 1))) (vVarD 2) (toD (vC (.int 2)))) (vCmp .lt (frD (v2 mulV (toD (vC (.int 2))) (vVarD 2))) (vVarD 1)))))))
noncomputable def S__law_due : Fn := mkFn 0 B__law_due

/-- law -/
noncomputable def B_law : ST := (vSeq (vSet 1 (v2 ixP (frD (vLst (vCons (toD (vC (.int 5))) (vCons (toD (vC (.int 7))) (vCons (toD (vC (.int 11))) (vCons (toD (vC (.int 13))) (vCons (toD (vC (.int 17))) (vCons (toD (vC (.int 19))) (vCons (toD (vC (.int 23))) (vCons (toD (vC (.int 29))) (vCons (toD (vC (.int 31))) vNil))))))))))) (toD (v2 modI (frD (vCall S__law_cell_at (aC (vVar 0) (aC (vC (.int 0)) aN)))) (toD (vC (.int 9)))))))
  (vSeq (vIfS (toT (vCmp .eq (toD (v2 modI (frD (vCall S__law_cell_at (aC (vVar 0) (aC (vC (.int 1)) aN)))) (toD (vC (.int 3))))) (toD (vC (.int 1))))) (vSet 1 (v2 subI (toD (v2 modI (toD (v2 divI (frD (vCall S__law_cell_at (aC (vVar 0) (aC (vC (.int 1)) aN)))) (toD (vC (.int 3))))) (toD (vC (.int 44))))) (toD (vC (.int 3))))) vSkip)
  (vSeq (vSet 2 (v2 ixP (frD (vLst (vCons (toD (v2 modI (toD (v2 divI (frD (vCall S__law_cell_at (aC (vVar 0) (aC (vC (.int 2)) aN)))) (toD (vC (.int 3))))) (toD (vC (.int 10))))) (vCons (toD (frO (v2 addV (toD (vC (.int 5))) (toD (v2 modI (toD (v2 divI (frD (vCall S__law_cell_at (aC (vVar 0) (aC (vC (.int 2)) aN)))) (toD (vC (.int 3))))) (toD (vC (.int 4)))))))) (vCons (toD (vC (.int 7))) vNil))))) (toD (v2 modI (frD (vCall S__law_cell_at (aC (vVar 0) (aC (vC (.int 2)) aN)))) (toD (vC (.int 3)))))))
  (vSeq (vSet 3 (frO (v2 addV (toD (vC (.int 1))) (toD (v2 modI (frD (vCall S__law_cell_at (aC (vVar 0) (aC (vC (.int 3)) aN)))) (toD (vC (.int 2))))))))
  (vSeq (vIfS (toT (vCmp .eq (toD (v2 modI (frD (vCall S__law_cell_at (aC (vVar 0) (aC (vC (.int 4)) aN)))) (toD (vC (.int 2))))) (toD (vC (.int 1))))) (vSet 3 (v2 subI (toD (v2 modI (toD (v2 divI (frD (vCall S__law_cell_at (aC (vVar 0) (aC (vC (.int 4)) aN)))) (toD (vC (.int 2))))) (toD (vC (.int 6))))) (toD (vC (.int 1))))) vSkip)
  (vSeq (vSet 4 (vC .none))
  (vSeq (vTry ["VeilError", "BadTable"] "BadTable" (vSet 4 (frO (vMake "Table" S_Table___init__ (aC (vVar 1) (aC (vVar 2) (aC (vVar 3) aN)))))) 5 (fun c => (vRetP (vAnd (vNot (frO (vCall S__law_due (aC (vVar 1) (aC (vVar 2) (aC (vVar 3) aN)))))) (vAnd (fun _ => iB (subE c "VeilError")) (vC (.bool true)))))))
  (vSeq (vSet 6 (frO (vLst (vCons (toD (vFld "Table" "prime" (vVar 4))) (vCons (toD (vFld "Table" "hands" (vVar 4))) (vCons (toD (vFld "Table" "few" (vVar 4))) vNil))))))
  (vRetP (vAnd (frO (vCall S__law_due (aC (vVar 1) (aC (vVar 2) (aC (vVar 3) aN))))) (vAnd (v1 allP (frD (vComp (vItL (vVarD 6)) (gN 7) vYes (vCall S__law_whole (aC (vVar 7) aN)) [7]))) (vCmp .eq (vVarD 6) (frD (vLst (vCons (toD (vVar 1)) (vCons (toD (vVar 2)) (vCons (toD (vVar 3)) vNil)))))))))))))))))
noncomputable def S_law : Fn := mkFn 7 B_law

/-- back -/
noncomputable def B_back : ST := (vSeq (vIfS (toT (vCmp .eq (vVarD 1) (toD (vC (.int 0))))) (vRaise "Nought") vSkip)
  (vSeq (vSet 2 (vC (.int 1)))
  (vSeq (vFor (v1 rng1 (toD (v2 subI (toD (vFld "Table" "prime" (vVar 0))) (toD (vC (.int 2)))))) (gN 3)
  (vSet 2 (v2 modI (frD (v2 mulV (vVarD 2) (vVarD 1))) (toD (vFld "Table" "prime" (vVar 0))))))
  (vRetP (vVar 2)))))
noncomputable def S_back : Fn := mkFn 2 B_back

/-- _law_table_by -/
noncomputable def B__law_table_by : ST := (vSeq (vSet 1 (v2 ixP (frD (vLst (vCons (toD (vC (.int 5))) (vCons (toD (vC (.int 7))) (vCons (toD (vC (.int 11))) (vCons (toD (vC (.int 13))) (vCons (toD (vC (.int 17))) (vCons (toD (vC (.int 19))) (vCons (toD (vC (.int 23))) (vCons (toD (vC (.int 29))) (vCons (toD (vC (.int 31))) vNil))))))))))) (toD (v2 modI (vVarD 0) (toD (vC (.int 9)))))))
  (vSeq (vSet 2 (frO (v2 addV (toD (vC (.int 3))) (toD (v2 modI (toD (v2 divI (vVarD 0) (toD (vC (.int 9))))) (toD (v2 subI (toD (v2 minI (toD (vC (.int 7))) (toD (v2 subI (vVarD 1) (toD (vC (.int 1))))))) (toD (vC (.int 2))))))))))
  (vSeq (vSet 3 (vC (.int 1)))
  (vSeq (vIfS (vAndT (toT (vCmp .gt (vVarD 2) (toD (vC (.int 4))))) (toT (vCmp .eq (toD (v2 modI (toD (v2 divI (vVarD 0) (toD (vC (.int 45))))) (toD (vC (.int 2))))) (toD (vC (.int 1)))))) (vSet 3 (vC (.int 2))) vSkip)
  (vRet (vMake "Table" S_Table___init__ (aC (vVar 1) (aC (vVar 2) (aC (vVar 3) aN)))))))))
noncomputable def S__law_table_by : Fn := mkFn 3 B__law_table_by

/-- law -/
noncomputable def B_law_v1 : ST := (vSeq (vSet 1 (frO (vCall S__law_table_by (aC (frO (vCall S__law_cell_at (aC (vVar 0) (aC (vC (.int 0)) aN)))) aN))))
  (vSeq (vFor (v2 rng2 (toD (vC (.int 1))) (toD (vFld "Table" "prime" (vVar 1)))) (gN 2)
  (vSeq (vSet 3 (frO (vCall S_back (aC (vVar 1) (aC (vVar 2) aN)))))
  (vIfS (vOrT (vNotT (toT (frO (vCall S__law_whole (aC (vVar 3) aN))))) (vOrT (vNotT (toT (vChain .lt .lt (toD (vC (.int 0))) (vVarD 3) (toD (vFld "Table" "prime" (vVar 1)))))) (toT (vCmp .ne (toD (v2 modI (frD (v2 mulV (vVarD 3) (vVarD 2))) (toD (vFld "Table" "prime" (vVar 1))))) (toD (vC (.int 1))))))) (vRetP (vC (.bool false))) vSkip)))
  (vSeq (vTry ["VeilError", "BadTable", "Nought"] "Nought" (vDrop (vCall S_back (aC (vVar 1) (aC (vC (.int 0)) aN)))) 4 (fun c => (vRetP (fun _ => iB (subE c "VeilError")))))
  (vRetP (vC (.bool false))))))
noncomputable def S_law_v1 : Fn := mkFn 4 B_law_v1

/-- worth -/
noncomputable def B_worth : ST := (vSeq (vSet 3 (vC (.int 0)))
  (vSeq (vFor (vItRev (toD (vVar 1))) (gN 4)
  (vSet 3 (v2 modI (frD (v2 addV (frD (v2 mulV (vVarD 3) (vVarD 2))) (vVarD 4))) (toD (vFld "Table" "prime" (vVar 0))))))
  (vRetP (vVar 3))))
noncomputable def S_worth : Fn := mkFn 2 B_worth

/-- _law_mix -/
noncomputable def B__law_mix : ST := (vRetP (v2 modI (toD (v2 divI (toD (v2 modI (frD (v2 mulV (frD (v2 addV (toD (v2 modI (vVarD 0) (toD (vC (.int 2147483647))))) (toD (vC (.int 12345))))) (frD (v2 addV (toD (vC (.int 48271))) (frD (v2 mulV (toD (vC (.int 6))) (vVarD 1))))))) (toD (vC (.int 1000000007))))) (toD (vC (.int 7))))) (vVarD 2)))
noncomputable def S__law_mix : Fn := mkFn 0 B__law_mix

/-- _law_numbers -/
noncomputable def B__law_numbers : ST := (vRet (vComp (v1 rng1 (vVarD 1)) (gN 3) vYes (vCall S__law_mix (aC (vVar 0) (aC (frO (v2 mulV (toD (vC (.int 3))) (vVarD 3))) (aC (vVar 2) aN)))) [3]))
noncomputable def S__law_numbers : Fn := mkFn 1 B__law_numbers

/-- _law_worth -/
noncomputable def B__law_worth : ST := (vSeq (vSet 3 (vC (.int 0)))
  (vSeq (vSet 4 (vC (.int 1)))
  (vSeq (vFor (vItL (toD (vVar 1))) (gN 5)
  (vSeq (vSet 3 (v2 modI (frD (v2 addV (vVarD 3) (frD (v2 mulV (vVarD 5) (vVarD 4))))) (vVarD 0)))
  (vSet 4 (v2 modI (frD (v2 mulV (vVarD 4) (vVarD 2))) (vVarD 0)))))
  (vRetP (vVar 3)))))
noncomputable def S__law_worth : Fn := mkFn 3 B__law_worth

/-- law -/
noncomputable def B_law_v2 : ST := (vSeq (vSet 1 (frO (vCall S__law_table_by (aC (frO (vCall S__law_cell_at (aC (vVar 0) (aC (vC (.int 0)) aN)))) aN))))
  (vSeq (vSetO 2 (vCall S__law_numbers (aC (frO (vCall S__law_cell_at (aC (vVar 0) (aC (vC (.int 1)) aN)))) (aC (v2 modI (frD (vCall S__law_cell_at (aC (vVar 0) (aC (vC (.int 2)) aN)))) (toD (vC (.int 13)))) (aC (vFld "Table" "prime" (vVar 1)) aN)))))
  (vSeq (vSet 3 (frO (v1 listP (vVarD 2))))
  (vSeq (vFor (v1 rng1 (toD (vFld "Table" "prime" (vVar 1)))) (gN 4)
  (vSeq (vSet 5 (frO (vTmp 2 [] (vCall S_worth (aC (vVar 1) (aC (vVar 2) (aC (vVar 4) aN)))))))
  (vIfS (vOrT (vNotT (toT (frO (vCall S__law_whole (aC (vVar 5) aN))))) (toT (vCmp .ne (vVarD 5) (frD (vCall S__law_worth (aC (vFld "Table" "prime" (vVar 1)) (aC (vVar 3) (aC (vVar 4) aN)))))))) (vRetP (vC (.bool false))) vSkip)))
  (vSeq (vIfS (toT (vCmp .ne (vVarD 2) (vVarD 3))) (vRetP (vC (.bool false))) vSkip)
  (vSeq (vEx (vApp (plN 2) (v2 addV (toD (vC (.int 1))) (toD (v2 modI (frD (vCall S__law_cell_at (aC (vVar 0) (aC (vC (.int 3)) aN)))) (toD (v2 subI (toD (vFld "Table" "prime" (vVar 1))) (toD (vC (.int 1))))))))))
  (vSeq (vSet 4 (v2 modI (frD (vCall S__law_cell_at (aC (vVar 0) (aC (vC (.int 4)) aN)))) (toD (vFld "Table" "prime" (vVar 1)))))
  (vSeq (vFrz 2 [])
  (vRetP (vCmp .eq (frD (vCall S_worth (aC (vVar 1) (aC (vVar 2) (aC (vVar 4) aN))))) (frD (vCall S__law_worth (aC (vFld "Table" "prime" (vVar 1)) (aC (vVar 2) (aC (vVar 4) aN)))))))))))))))
noncomputable def S_law_v2 : Fn := mkFn 5 B_law_v2

/-- product -/
noncomputable def B_product : ST := (vSeq (vSetO 3 (v2 mulV (frD (vLst (vCons (toD (vC (.int 0))) vNil))) (toD (v2 maxI (toD (vC (.int 0))) (toD (v2 subI (frD (v2 addV (toD (v1 lenP (vVarD 1))) (toD (v1 lenP (vVarD 2))))) (toD (vC (.int 1)))))))))
  (vSeq (vFor (vItEnum (toD (vVar 1))) (gT 2 (gsC (gN 4) (gsC (gN 5) gsN)))
  (vFor (vItEnum (toD (vVar 2))) (gT 2 (gsC (gN 6) (gsC (gN 7) gsN)))
  (vSetI (plN 3) (frD (v2 addV (vVarD 4) (vVarD 6))) (unO (v2 modI (frD (v2 addV (toD (plP (plX (plN 3) (frD (v2 addV (vVarD 4) (vVarD 6)))))) (frD (v2 mulV (vVarD 5) (vVarD 7))))) (toD (vFld "Table" "prime" (vVar 0))))))))
  (vRetV 3)))
noncomputable def S_product : Fn := mkFn 5 B_product

/-- through -/
noncomputable def B_through : ST := (vSeq (vSet 2 (frO (v2 mulV (frD (vLst (vCons (toD (vC (.int 0))) vNil))) (toD (v1 lenP (vVarD 1))))))
  (vSeq (vFor (vItEnum (toD (vVar 1))) (gT 2 (gsC (gN 3) (gsC (gN 4) gsN)))
  (vSeq (vSet 5 (frO (vLst (vCons (toD (v2 ixP (vVarD 4) (toD (vC (.int 1))))) vNil))))
  (vSeq (vFor (vItEnum (toD (vVar 1))) (gT 2 (gsC (gN 6) (gsC (gN 7) gsN)))
  (vIfS (toT (vCmp .ne (vVarD 6) (vVarD 3))) (vSeq (vIfS (toT (vCmp .eq (toD (v2 ixP (vVarD 7) (toD (vC (.int 0))))) (toD (v2 ixP (vVarD 4) (toD (vC (.int 0))))))) (vRaise "AlikePoints") vSkip)
  (vSeq (vSet 8 (frO (vCall S_back (aC (vVar 0) (aC (v2 modI (toD (v2 subI (toD (v2 ixP (vVarD 4) (toD (vC (.int 0))))) (toD (v2 ixP (vVarD 7) (toD (vC (.int 0))))))) (toD (vFld "Table" "prime" (vVar 0)))) aN)))))
  (vSet 5 (frO (vCall S_product (aC (vVar 0) (aC (vVar 5) (aC (frO (vLst (vCons (toD (v2 modI (frD (v2 mulV (toD (v1 negI (toD (v2 ixP (vVarD 7) (toD (vC (.int 0))))))) (vVarD 8))) (toD (vFld "Table" "prime" (vVar 0))))) (vCons (toD (vVar 8)) vNil)))) aN)))))))) vSkip))
  (vSet 2 (frO (vComp (vItZip (vVarD 2) (vVarD 5)) (gT 2 (gsC (gN 9) (gsC (gN 10) gsN))) vYes (unO (v2 modI (frD (v2 addV (vVarD 9) (vVarD 10))) (toD (vFld "Table" "prime" (vVar 0))))) [9, 10]))))))
  (vRetP (vVar 2))))
noncomputable def S_through : Fn := mkFn 9 B_through

/-- _law_points -/
noncomputable def B__law_points : ST := (vSeq (vSetO 3 (vLst vNil))
  (vSeq (vSet 4 (v2 modI (frD (vCall S__law_cell_at (aC (vVar 0) (aC (vC (.int 1)) aN)))) (toD (vFld "Table" "prime" (vVar 1)))))
  (vSeq (vSet 5 (frO (v2 addV (toD (vC (.int 1))) (toD (v2 modI (frD (vCall S__law_cell_at (aC (vVar 0) (aC (vC (.int 2)) aN)))) (toD (v2 subI (toD (vFld "Table" "prime" (vVar 1))) (toD (vC (.int 1))))))))))
  (vSeq (vFor (v1 rng1 (vVarD 2)) (gN 6)
  (vSeq (vEx (vApp (plN 3) (unO (vTup (vCons (toD (vVar 4)) (vCons (toD (frO (vCall S__law_mix (aC (frO (vCall S__law_cell_at (aC (vVar 0) (aC (frO (v2 addV (toD (vC (.int 3))) (vVarD 6))) aN)))) (aC (vVar 6) (aC (vFld "Table" "prime" (vVar 1)) aN)))))) vNil))))))
  (vSet 4 (v2 modI (frD (v2 addV (vVarD 4) (vVarD 5))) (toD (vFld "Table" "prime" (vVar 1)))))))
  (vRetV 3)))))
noncomputable def S__law_points : Fn := mkFn 4 B__law_points

/-- _law_refused -/
noncomputable def B__law_refused : ST := (vSeq (vTry ["VeilError", "BadTable", "Nought", "AlikePoints"] "AlikePoints" (vDrop (vCall S_through (aC (vVar 0) (aC (vVar 1) aN)))) 2 (fun c => (vRetP (fun _ => iB (subE c "VeilError")))))
  (vRetP (vC (.bool false))))
noncomputable def S__law_refused : Fn := mkFn 1 B__law_refused

/-- law -/
noncomputable def B_law_v3 : ST := (vSeq (vSet 1 (frO (vCall S__law_table_by (aC (frO (vCall S__law_cell_at (aC (vVar 0) (aC (vC (.int 0)) aN)))) aN))))
  (vSeq (vSet 2 (v2 modI (frD (vCall S__law_cell_at (aC (vVar 0) (aC (vC (.int 12)) aN)))) (toD (v2 minI (toD (vC (.int 9))) (toD (vFld "Table" "prime" (vVar 1)))))))
  (vSeq (vSet 3 (frO (vCall S__law_points (aC (vVar 0) (aC (vVar 1) (aC (vVar 2) aN))))))
  (vSeq (vIfS (vAndT (toT (vCmp .gt (vVarD 2) (toD (vC (.int 0))))) (toT (vCmp .eq (toD (v2 modI (frD (vCall S__law_cell_at (aC (vVar 0) (aC (vC (.int 13)) aN)))) (toD (vC (.int 4))))) (toD (vC (.int 1)))))) (vSeq (vSet 4 (v2 ixP (vVarD 3) (toD (v2 modI (toD (v2 divI (frD (vCall S__law_cell_at (aC (vVar 0) (aC (vC (.int 13)) aN)))) (toD (vC (.int 4))))) (vVarD 2)))))
  (vSeq (vSet 5 (vTup (vCons (toD (v2 ixP (vVarD 4) (toD (vC (.int 0))))) (vCons (toD (v2 modI (frD (v2 addV (toD (v2 ixP (vVarD 4) (toD (vC (.int 1))))) (toD (v2 modI (frD (vCall S__law_cell_at (aC (vVar 0) (aC (vC (.int 14)) aN)))) (toD (vC (.int 2))))))) (toD (vFld "Table" "prime" (vVar 1))))) vNil))))
  (vSeq (vSet 6 (v2 modI (frD (vCall S__law_cell_at (aC (vVar 0) (aC (vC (.int 15)) aN)))) (frD (v2 addV (vVarD 2) (toD (vC (.int 1)))))))
  (vRet (vCall S__law_refused (aC (vVar 1) (aC (frO (v2 addV (frD (v2 addV (frD (vSl (vVarD 3) vNoPart (vPart (vVarD 6)))) (frD (vLst (vCons (toD (vVar 5)) vNil))))) (frD (vSl (vVarD 3) (vPart (vVarD 6)) vNoPart)))) aN))))))) vSkip)
  (vSeq (vSet 7 (frO (v1 listP (vVarD 3))))
  (vSeq (vSet 8 (frO (vCall S_through (aC (vVar 1) (aC (vVar 7) aN)))))
  (vSeq (vIfS (vOrT (vNotT (toT (v1 (fun y => iB (isI .list y)) (vVarD 8)))) (vOrT (toT (vCmp .ne (toD (v1 lenP (vVarD 8))) (vVarD 2))) (toT (vCmp .ne (vVarD 7) (vVarD 3))))) (vRetP (vC (.bool false))) vSkip)
  (vSeq (vIfS (vNotT (toT (v1 allP (frD (vComp (vItL (vVarD 8)) (gN 9) vYes (unO (vAnd (frO (vCall S__law_whole (aC (vVar 9) aN))) (vChain .le .lt (toD (vC (.int 0))) (vVarD 9) (toD (vFld "Table" "prime" (vVar 1)))))) [9]))))) (vRetP (vC (.bool false))) vSkip)
  (vRetP (v1 allP (frD (vComp (vItL (vVarD 3)) (gN 10) vYes (unO (vCmp .eq (frD (vCall S__law_worth (aC (vFld "Table" "prime" (vVar 1)) (aC (vVar 8) (aC (v2 ixP (vVarD 10) (toD (vC (.int 0)))) aN))))) (toD (v2 ixP (vVarD 10) (toD (vC (.int 1))))))) [10]))))))))))))
noncomputable def S_law_v3 : Fn := mkFn 10 B_law_v3

/-- weights -/
noncomputable def B_weights : ST := (vSeq (vSetO 1 (vLst vNil))
  (vSeq (vFor (v2 rng2 (toD (vC (.int 1))) (frD (v2 addV (toD (vFld "Table" "hands" (vVar 0))) (toD (vC (.int 1)))))) (gN 2)
  (vSeq (vSet 3 (frO (vComp (v2 rng2 (toD (vC (.int 1))) (frD (v2 addV (toD (vFld "Table" "hands" (vVar 0))) (toD (vC (.int 1)))))) (gN 4) vYes (unO (vTup (vCons (toD (vVar 4)) (vCons (toD (frO (v1 intP (toD (vCmp .eq (vVarD 4) (vVarD 2)))))) vNil)))) [4])))
  (vEx (vApp (plN 1) (unO (v2 ixP (frD (vCall S_through (aC (vVar 0) (aC (vVar 3) aN)))) (toD (vC (.int 0)))))))))
  (vRetV 1)))
noncomputable def S_weights : Fn := mkFn 4 B_weights

/-- dealt -/
noncomputable def B_dealt : ST := (vRet (vComp (v2 rng2 (toD (vC (.int 1))) (frD (v2 addV (toD (vFld "Table" "hands" (vVar 0))) (toD (vC (.int 1)))))) (gN 3) vYes (vCall S_worth (aC (vVar 0) (aC (frO (v2 addV (frD (vLst (vCons (toD (vVar 1)) vNil))) (frD (v1 listP (vVarD 2))))) (aC (vVar 3) aN)))) [3]))
noncomputable def S_dealt : Fn := mkFn 1 B_dealt

/-- _law_row -/
noncomputable def B__law_row : ST := (vSeq (vIfS (vOrT (vNotT (toT (v1 (fun y => iB (isI .list y)) (vVarD 0)))) (toT (vCmp .ne (toD (v1 lenP (vVarD 0))) (toD (v1 lenP (vVarD 1)))))) (vRetP (vC (.bool false))) vSkip)
  (vSeq (vFor (vItZip (toD (vVar 0)) (toD (vVar 1))) (gT 2 (gsC (gN 2) (gsC (gN 3) gsN)))
  (vIfS (vOrT (vNotT (toT (frO (vCall S__law_whole (aC (vVar 2) aN))))) (toT (vCmp .ne (vVarD 2) (vVarD 3)))) (vRetP (vC (.bool false))) vSkip))
  (vRetP (vC (.bool true)))))
noncomputable def S__law_row : Fn := mkFn 2 B__law_row

/-- law -/
noncomputable def B_law_v5 : ST := (vSeq (vSet 1 (frO (vCall S__law_table_by (aC (frO (vCall S__law_cell_at (aC (vVar 0) (aC (vC (.int 0)) aN)))) aN))))
  (vSeq (vSet 2 (v2 modI (frD (vCall S__law_cell_at (aC (vVar 0) (aC (vC (.int 1)) aN)))) (toD (vFld "Table" "prime" (vVar 1)))))
  (vSeq (vSet 3 (frO (vCall S__law_numbers (aC (frO (vCall S__law_cell_at (aC (vVar 0) (aC (vC (.int 2)) aN)))) (aC (vFld "Table" "few" (vVar 1)) (aC (vFld "Table" "prime" (vVar 1)) aN))))))
  (vSeq (vSet 4 (frO (v1 listP (vVarD 3))))
  (vSeq (vSet 5 (frO (vCall S_dealt (aC (vVar 1) (aC (vVar 2) (aC (vVar 4) aN))))))
  (vSeq (vSet 6 (frO (vComp (v2 rng2 (toD (vC (.int 1))) (frD (v2 addV (toD (vFld "Table" "hands" (vVar 1))) (toD (vC (.int 1)))))) (gN 7) vYes (vCall S__law_worth (aC (vFld "Table" "prime" (vVar 1)) (aC (frO (v2 addV (frD (vLst (vCons (toD (vVar 2)) vNil))) (vVarD 3))) (aC (vVar 7) aN)))) [7])))
  (vRetP (vAnd (frO (vCall S__law_row (aC (vVar 5) (aC (vVar 6) aN)))) (vCmp .eq (vVarD 4) (vVarD 3))))))))))
noncomputable def S_law_v5 : Fn := mkFn 7 B_law_v5

/-- _law_longer -/
noncomputable def B__law_longer : ST := (vSeq (vSetO 2 (vLst vNil))
  (vSeq (vFor (vItL (toD (vVar 0))) (gN 3)
  (vFor (v1 rng1 (vVarD 1)) (gN 4)
  (vEx (vApp (plN 2) (v2 addV (vVarD 3) (frD (vLst (vCons (toD (vVar 4)) vNil))))))))
  (vRetV 2)))
noncomputable def S__law_longer : Fn := mkFn 3 B__law_longer

/-- _law_all_rows -/
noncomputable def B__law_all_rows : ST := (vSeq (vSet 2 (frO (vLst (vCons (toD (frO (vLst vNil))) vNil))))
  (vSeq (vFor (v1 rng1 (vVarD 1)) (gN 3)
  (vSet 2 (frO (vCall S__law_longer (aC (vVar 2) (aC (vVar 0) aN))))))
  (vRetP (vVar 2))))
noncomputable def S__law_all_rows : Fn := mkFn 2 B__law_all_rows

/-- _law_counted -/
noncomputable def B__law_counted : ST := (vSeq (vSet 4 (vC (.int 0)))
  (vSeq (vFor (vItL (toD (frO (vCall S__law_all_rows (aC (vFld "Table" "prime" (vVar 0)) (aC (vFld "Table" "few" (vVar 0)) aN)))))) (gN 5)
  (vSeq (vSet 6 (frO (vCall S_dealt (aC (vVar 0) (aC (vVar 1) (aC (vVar 5) aN))))))
  (vIfS (toT (vCmp .eq (frD (vComp (vItL (vVarD 2)) (gN 7) vYes (unO (v2 ixP (vVarD 6) (toD (v2 subI (vVarD 7) (toD (vC (.int 1))))))) [7])) (vVarD 3))) (vSet 4 (frO (v2 addV (vVarD 4) (toD (vC (.int 1)))))) vSkip)))
  (vRetP (vVar 4))))
noncomputable def S__law_counted : Fn := mkFn 4 B__law_counted

/-- law -/
noncomputable def B_law_v6 : ST := (vSeq (vSet 1 (frO (vCall S__law_cell_at (aC (vVar 0) (aC (vC (.int 0)) aN)))))
  (vSeq (vSet 2 (frO (vCall S__law_table_by (aC (frO (v2 addV (frD (v2 mulV (toD (v2 divI (vVarD 1) (toD (vC (.int 4))))) (toD (vC (.int 9))))) (toD (v2 modI (vVarD 1) (toD (vC (.int 4))))))) aN))))
  (vSeq (vSet 3 (v2 modI (frD (vCall S__law_cell_at (aC (vVar 0) (aC (vC (.int 1)) aN)))) (toD (vFld "Table" "prime" (vVar 2)))))
  (vSeq (vSet 4 (v2 modI (frD (vCall S__law_cell_at (aC (vVar 0) (aC (vC (.int 2)) aN)))) (toD (vFld "Table" "prime" (vVar 2)))))
  (vSeq (vSet 5 (frO (v2 addV (toD (vC (.int 1))) (toD (v2 modI (frD (vCall S__law_cell_at (aC (vVar 0) (aC (vC (.int 3)) aN)))) (toD (vFld "Table" "hands" (vVar 2))))))))
  (vSeq (vSet 6 (frO (vLst (vCons (toD (vVar 5)) vNil))))
  (vSeq (vIfS (vAndT (toT (vCmp .eq (toD (vFld "Table" "few" (vVar 2))) (toD (vC (.int 2))))) (toT (vCmp .gt (toD (v2 modI (frD (vCall S__law_cell_at (aC (vVar 0) (aC (vC (.int 4)) aN)))) (toD (vC (.int 3))))) (toD (vC (.int 0)))))) (vSet 6 (frO (v1 sortP (frD (vLst (vCons (toD (vVar 5)) (vCons (toD (frO (v2 addV (toD (vC (.int 1))) (toD (v2 modI (frD (v2 addV (vVarD 5) (toD (v2 modI (frD (vCall S__law_cell_at (aC (vVar 0) (aC (vC (.int 5)) aN)))) (toD (v2 subI (toD (vFld "Table" "hands" (vVar 2))) (toD (vC (.int 1))))))))) (toD (vFld "Table" "hands" (vVar 2)))))))) vNil))))))) vSkip)
  (vSeq (vIfS (toT (vCmp .eq (toD (v2 modI (frD (vCall S__law_cell_at (aC (vVar 0) (aC (vC (.int 4)) aN)))) (toD (vC (.int 7))))) (toD (vC (.int 6))))) (vSet 6 (frO (vLst vNil))) vSkip)
  (vSeq (vSet 7 (frO (vCall S__law_numbers (aC (frO (vCall S__law_cell_at (aC (vVar 0) (aC (vC (.int 6)) aN)))) (aC (vFld "Table" "few" (vVar 2)) (aC (vFld "Table" "prime" (vVar 2)) aN))))))
  (vSeq (vSet 8 (frO (vCall S_dealt (aC (vVar 2) (aC (vVar 3) (aC (vVar 7) aN))))))
  (vSeq (vSet 9 (frO (vComp (vItL (vVarD 6)) (gN 10) vYes (unO (v2 ixP (vVarD 8) (toD (v2 subI (vVarD 10) (toD (vC (.int 1))))))) [10])))
  (vRetP (vCmp .eq (frD (vCall S__law_counted (aC (vVar 2) (aC (vVar 3) (aC (vVar 6) (aC (vVar 9) aN)))))) (frD (vCall S__law_counted (aC (vVar 2) (aC (vVar 4) (aC (vVar 6) (aC (vVar 9) aN)))))))))))))))))))
noncomputable def S_law_v6 : Fn := mkFn 10 B_law_v6

/-- choices -/
noncomputable def B_choices : ST := (vSeq (vSet 2 (frO (vLst (vCons (toD (frO (vLst vNil))) vNil))))
  (vSeq (vFor (v1 rng1 (vVarD 1)) (gN 3)
  (vSeq (vSetO 4 (vLst vNil))
  (vSeq (vFor (vItL (toD (vVar 2))) (gN 5)
  (vSeq (vSet 6 (vIf (toT (vCmp .gt (toD (v1 lenP (vVarD 5))) (toD (vC (.int 0))))) (frO (v2 addV (toD (v2 ixP (vVarD 5) (toD (v1 negI (toD (vC (.int 1))))))) (toD (vC (.int 1))))) (vC (.int 0))))
  (vFor (v2 rng2 (vVarD 6) (vVarD 0)) (gN 7)
  (vEx (vApp (plN 4) (v2 addV (vVarD 5) (frD (vLst (vCons (toD (vVar 7)) vNil)))))))))
  (vSeq (vFrz 4 [])
  (vSet 2 (vVar 4))))))
  (vRetP (vVar 2))))
noncomputable def S_choices : Fn := mkFn 6 B_choices

/-- mended -/
noncomputable def B_mended : ST := (vSeq (vSet 3 (frO (vComp (vItEnum (vVarD 1)) (gT 2 (gsC (gN 7) (gsC (gN 8) gsN))) (toT (v1 (fun x => iB (!isN x)) (vVarD 8))) (unO (vTup (vCons (toD (frO (v2 addV (vVarD 7) (toD (vC (.int 1)))))) (vCons (toD (vVar 8)) vNil)))) [7, 8])))
  (vSeq (vIfS (toT (vCmp .lt (toD (v1 lenP (vVarD 3))) (frD (v2 addV (frD (v2 addV (toD (vFld "Table" "few" (vVar 0))) (toD (vC (.int 1))))) (frD (v2 mulV (toD (vC (.int 2))) (vVarD 2))))))) (vRaise "TooFew") vSkip)
  (vSeq (vFor (vItL (toD (frO (vCall S_choices (aC (v1 lenP (vVarD 3)) (aC (frO (v2 addV (toD (vFld "Table" "few" (vVar 0))) (toD (vC (.int 1))))) aN)))))) (gN 4)
  (vSeq (vSet 5 (frO (vCall S_through (aC (vVar 0) (aC (frO (vComp (vItL (vVarD 4)) (gN 7) vYes (unO (v2 ixP (vVarD 3) (vVarD 7))) [7])) aN)))))
  (vSeq (vSet 6 (frO (vComp (vItL (vVarD 3)) (gT 2 (gsC (gN 9) (gsC (gN 8) gsN))) (toT (vCmp .ne (frD (vCall S_worth (aC (vVar 0) (aC (vVar 5) (aC (vVar 9) aN))))) (vVarD 8))) (unO (vVar 9)) [9, 8])))
  (vIfS (toT (vCmp .le (toD (v1 lenP (vVarD 6))) (vVarD 2))) (vRetP (vTup (vCons (toD (v2 ixP (vVarD 5) (toD (vC (.int 0))))) (vCons (toD (vVar 6)) vNil)))) vSkip))))
  (vRetP (vC .none)))))
noncomputable def S_mended : Fn := mkFn 7 B_mended

/-- law -/
noncomputable def B_law_v7 : ST := (vSeq (vSet 1 (frO (vCall S__law_table_by (aC (frO (vCall S__law_cell_at (aC (vVar 0) (aC (vC (.int 0)) aN)))) aN))))
  (vSeq (vSet 2 (frO (vCall S__law_numbers (aC (frO (vCall S__law_cell_at (aC (vVar 0) (aC (vC (.int 1)) aN)))) (aC (frO (v2 addV (toD (vFld "Table" "few" (vVar 1))) (toD (vC (.int 1))))) (aC (vFld "Table" "prime" (vVar 1)) aN))))))
  (vSeq (vSetO 3 (vComp (v2 rng2 (toD (vC (.int 1))) (frD (v2 addV (toD (vFld "Table" "hands" (vVar 1))) (toD (vC (.int 1)))))) (gN 13) vYes (vCall S__law_worth (aC (vFld "Table" "prime" (vVar 1)) (aC (vVar 2) (aC (vVar 13) aN)))) [13]))
  (vSeq (vSet 4 (v2 modI (frD (vCall S__law_cell_at (aC (vVar 0) (aC (vC (.int 2)) aN)))) (frD (v2 addV (toD (v2 divI (toD (v2 subI (toD (v2 subI (toD (vFld "Table" "hands" (vVar 1))) (toD (vFld "Table" "few" (vVar 1))))) (toD (vC (.int 1))))) (toD (vC (.int 2))))) (toD (vC (.int 1)))))))
  (vSeq (vSet 5 (v2 modI (frD (vCall S__law_cell_at (aC (vVar 0) (aC (vC (.int 3)) aN)))) (toD (vFld "Table" "hands" (vVar 1)))))
  (vSeq (vSetO 6 (vLst vNil))
  (vSeq (vFor (v1 rng1 (toD (v2 modI (frD (vCall S__law_cell_at (aC (vVar 0) (aC (vC (.int 4)) aN)))) (frD (v2 addV (vVarD 4) (toD (vC (.int 1)))))))) (gN 7)
  (vSeq (vSet 8 (v2 modI (frD (v2 addV (vVarD 5) (frD (v2 mulV (toD (vC (.int 2))) (vVarD 7))))) (toD (vFld "Table" "hands" (vVar 1)))))
  (vIfS (toT (vCmp .notin (frD (v2 addV (vVarD 8) (toD (vC (.int 1))))) (vVarD 6))) (vSeq (vSet 9 (frO (v2 addV (toD (vC (.int 1))) (frD (vCall S__law_mix (aC (frO (vCall S__law_cell_at (aC (vVar 0) (aC (vC (.int 5)) aN)))) (aC (vVar 7) (aC (v2 subI (toD (vFld "Table" "prime" (vVar 1))) (toD (vC (.int 1)))) aN))))))))
  (vSeq (vSetI (plN 3) (vVarD 8) (unO (v2 modI (frD (v2 addV (toD (plP (plX (plN 3) (vVarD 8)))) (vVarD 9))) (toD (vFld "Table" "prime" (vVar 1))))))
  (vEx (vApp (plN 6) (v2 addV (vVarD 8) (toD (vC (.int 1)))))))) vSkip)))
  (vSeq (vSet 10 (v2 modI (frD (vCall S__law_cell_at (aC (vVar 0) (aC (vC (.int 6)) aN)))) (toD (v2 subI (toD (v2 subI (toD (vFld "Table" "hands" (vVar 1))) (toD (vFld "Table" "few" (vVar 1))))) (frD (v2 mulV (toD (vC (.int 2))) (vVarD 4)))))))
  (vSeq (vFrz 6 [])
  (vSeq (vFor (v1 rng1 (vVarD 10)) (gN 7)
  (vSeq (vSet 8 (v2 modI (frD (v2 addV (frD (v2 addV (vVarD 5) (toD (vC (.int 1))))) (frD (v2 mulV (toD (vC (.int 2))) (vVarD 7))))) (toD (vFld "Table" "hands" (vVar 1)))))
  (vIfS (toT (vCmp .notin (frD (v2 addV (vVarD 8) (toD (vC (.int 1))))) (vVarD 6))) (vSetI (plN 3) (vVarD 8) (unO (vC .none))) vSkip)))
  (vSeq (vFrz 3 [])
  (vSeq (vSet 11 (frO (v1 listP (vVarD 3))))
  (vSeq (vSet 12 (frO (vCall S_mended (aC (vVar 1) (aC (vVar 11) (aC (vVar 4) aN))))))
  (vSeq (vIfS (vOrT (vNotT (toT (v1 (fun y => iB (isI .tuple y)) (vVarD 12)))) (vOrT (toT (vCmp .ne (toD (v1 lenP (vVarD 12))) (toD (vC (.int 2))))) (toT (vCmp .ne (vVarD 11) (vVarD 3))))) (vRetP (vC (.bool false))) vSkip)
  (vRetP (vAnd (frO (vCall S__law_whole (aC (v2 ixP (vVarD 12) (toD (vC (.int 0)))) aN))) (vAnd (vCmp .eq (toD (v2 ixP (vVarD 12) (toD (vC (.int 0))))) (toD (v2 ixP (vVarD 2) (toD (vC (.int 0)))))) (frO (vCall S__law_row (aC (v2 ixP (vVarD 12) (toD (vC (.int 1)))) (aC (frO (v1 sortP (vVarD 6))) aN)))))))))))))))))))))
noncomputable def S_law_v7 : Fn := mkFn 13 B_law_v7

/-- _law_told -/
noncomputable def B__law_told : ST := (vRetP (vAnd (v1 (fun y => iB (isI .bool y)) (vVarD 0)) (vCmp .eq (vVarD 0) (vVarD 1))))
noncomputable def S__law_told : Fn := mkFn 0 B__law_told

/-- _law_choices -/
noncomputable def B__law_choices : ST := (vSeq (vSet 2 (frO (vLst (vCons (toD (frO (vLst vNil))) vNil))))
  (vSeq (vFor (v1 rng1 (vVarD 1)) (gN 3)
  (vSeq (vSetO 4 (vLst vNil))
  (vSeq (vFor (vItL (toD (vVar 2))) (gN 5)
  (vSeq (vSet 6 (vC (.int 0)))
  (vSeq (vIfS (toT (vCmp .gt (toD (v1 lenP (vVarD 5))) (toD (vC (.int 0))))) (vSet 6 (frO (v2 addV (toD (v2 ixP (vVarD 5) (toD (v1 negI (toD (vC (.int 1))))))) (toD (vC (.int 1)))))) vSkip)
  (vFor (v2 rng2 (vVarD 6) (vVarD 0)) (gN 7)
  (vEx (vApp (plN 4) (v2 addV (vVarD 5) (frD (vLst (vCons (toD (vVar 7)) vNil))))))))))
  (vSeq (vFrz 4 [])
  (vSet 2 (vVar 4))))))
  (vRetP (vVar 2))))
noncomputable def S__law_choices : Fn := mkFn 6 B__law_choices

/-- _law_at -/
noncomputable def B__law_at : ST := (vSeq (vSet 3 (vC (.int 0)))
  (vSeq (vFor (vItEnum (toD (vVar 1))) (gT 2 (gsC (gN 4) (gsC (gN 5) gsN)))
  (vSeq (vSet 6 (v2 ixP (vVarD 5) (toD (vC (.int 1)))))
  (vSeq (vSet 7 (vC (.int 1)))
  (vSeq (vFor (vItEnum (toD (vVar 1))) (gT 2 (gsC (gN 8) (gsC (gN 9) gsN)))
  (vIfS (toT (vCmp .ne (vVarD 8) (vVarD 4))) (vSeq (vSet 6 (v2 modI (frD (v2 mulV (vVarD 6) (toD (v2 subI (vVarD 2) (toD (v2 ixP (vVarD 9) (toD (vC (.int 0))))))))) (vVarD 0)))
  (vSet 7 (v2 modI (frD (v2 mulV (vVarD 7) (toD (v2 subI (toD (v2 ixP (vVarD 5) (toD (vC (.int 0))))) (toD (v2 ixP (vVarD 9) (toD (vC (.int 0))))))))) (vVarD 0)))) vSkip))
  (vSeq (vFor (v1 rng1 (toD (v2 subI (vVarD 0) (toD (vC (.int 2)))))) (gN 10)
  (vSet 6 (v2 modI (frD (v2 mulV (vVarD 6) (vVarD 7))) (vVarD 0))))
  (vSet 3 (v2 modI (frD (v2 addV (vVarD 3) (vVarD 6))) (vVarD 0))))))))
  (vRetP (vVar 3))))
noncomputable def S__law_at : Fn := mkFn 8 B__law_at

/-- _law_bad -/
noncomputable def B__law_bad : ST := (vSeq (vSetO 3 (vLst vNil))
  (vSeq (vFor (vItL (toD (vVar 1))) (gT 2 (gsC (gN 4) (gsC (gN 5) gsN)))
  (vIfS (vAndT (toT (vCmp .notin (toD (vTup (vCons (toD (vVar 4)) (vCons (toD (vVar 5)) vNil)))) (vVarD 2))) (toT (vCmp .ne (frD (vCall S__law_at (aC (vVar 0) (aC (vVar 2) (aC (vVar 4) aN))))) (vVarD 5)))) (vEx (vApp (plN 3) (unO (vVar 4)))) vSkip))
  (vRetV 3)))
noncomputable def S__law_bad : Fn := mkFn 3 B__law_bad

/-- _law_told_well -/
noncomputable def B__law_told_well : ST := (vSeq (vIfS (vOrT (vNotT (toT (v1 (fun y => iB (isI .tuple y)) (vVarD 2)))) (vOrT (toT (vCmp .ne (toD (v1 lenP (vVarD 2))) (toD (vC (.int 2))))) (vOrT (vNotT (toT (frO (vCall S__law_whole (aC (v2 ixP (vVarD 2) (toD (vC (.int 0)))) aN))))) (vNotT (toT (v1 (fun y => iB (isI .list y)) (toD (v2 ixP (vVarD 2) (toD (vC (.int 1))))))))))) (vRetP (vC (.bool false))) vSkip)
  (vSeq (vIfS (vOrT (vNotT (toT (v1 allP (frD (vComp (vItL (toD (v2 ixP (vVarD 2) (toD (vC (.int 1)))))) (gN 5) vYes (vCall S__law_whole (aC (vVar 5) aN)) [5]))))) (toT (vCmp .gt (toD (v1 lenP (toD (v2 ixP (vVarD 2) (toD (vC (.int 1))))))) (vVarD 3)))) (vRetP (vC (.bool false))) vSkip)
  (vSeq (vSet 4 (frO (vSl (frD (vComp (vItL (vVarD 1)) (gN 6) (toT (vCmp .notin (toD (v2 ixP (vVarD 6) (toD (vC (.int 0))))) (toD (v2 ixP (vVarD 2) (toD (vC (.int 1))))))) (unO (vVar 6)) [6])) vNoPart (vPart (frD (v2 addV (toD (vFld "Table" "few" (vVar 0))) (toD (vC (.int 1)))))))))
  (vRetP (vAnd (vCmp .eq (frD (vCall S__law_bad (aC (vFld "Table" "prime" (vVar 0)) (aC (vVar 1) (aC (vVar 4) aN))))) (toD (v2 ixP (vVarD 2) (toD (vC (.int 1)))))) (vCmp .eq (frD (vCall S__law_at (aC (vFld "Table" "prime" (vVar 0)) (aC (vVar 4) (aC (vC (.int 0)) aN))))) (toD (v2 ixP (vVarD 2) (toD (vC (.int 0)))))))))))
noncomputable def S__law_told_well : Fn := mkFn 3 B__law_told_well

/-- _law_none -/
noncomputable def B__law_none : ST := (vSeq (vFor (vItL (toD (frO (vCall S__law_choices (aC (v1 lenP (vVarD 1)) (aC (frO (v2 addV (toD (vFld "Table" "few" (vVar 0))) (toD (vC (.int 1))))) aN)))))) (gN 3)
  (vIfS (toT (vCmp .le (toD (v1 lenP (frD (vCall S__law_bad (aC (vFld "Table" "prime" (vVar 0)) (aC (vVar 1) (aC (frO (vComp (vItL (vVarD 3)) (gN 4) vYes (unO (v2 ixP (vVarD 1) (vVarD 4))) [4])) aN))))))) (vVarD 2))) (vRetP (vC (.bool false))) vSkip))
  (vRetP (vC (.bool true))))
noncomputable def S__law_none : Fn := mkFn 2 B__law_none

/-- law -/
noncomputable def B_law_v8 : ST := (vSeq (vSet 1 (frO (vCall S__law_table_by (aC (frO (vCall S__law_cell_at (aC (vVar 0) (aC (vC (.int 0)) aN)))) aN))))
  (vSeq (vSetO 2 (vCall S__law_numbers (aC (frO (vCall S__law_cell_at (aC (vVar 0) (aC (vC (.int 1)) aN)))) (aC (vFld "Table" "hands" (vVar 1)) (aC (vFld "Table" "prime" (vVar 1)) aN)))))
  (vSeq (vIfS (toT (vCmp .eq (toD (v2 modI (frD (vCall S__law_cell_at (aC (vVar 0) (aC (vC (.int 2)) aN)))) (toD (vC (.int 2))))) (toD (vC (.int 0))))) (vSeq (vFrz 2 [])
  (vSeq (vSet 3 (frO (vSl (vVarD 2) vNoPart (vPart (frD (v2 addV (toD (vFld "Table" "few" (vVar 1))) (toD (vC (.int 1)))))))))
  (vSeq (vSetO 2 (vComp (v2 rng2 (toD (vC (.int 1))) (frD (v2 addV (toD (vFld "Table" "hands" (vVar 1))) (toD (vC (.int 1)))))) (gN 11) vYes (vCall S__law_worth (aC (vFld "Table" "prime" (vVar 1)) (aC (vVar 3) (aC (vVar 11) aN)))) [11]))
  (vFor (v1 rng1 (toD (v2 modI (toD (v2 divI (frD (vCall S__law_cell_at (aC (vVar 0) (aC (vC (.int 2)) aN)))) (toD (vC (.int 2))))) (toD (vC (.int 4)))))) (gN 4)
  (vSeq (vSet 5 (frO (vCall S__law_mix (aC (frO (vCall S__law_cell_at (aC (vVar 0) (aC (vC (.int 3)) aN)))) (aC (vVar 4) (aC (vFld "Table" "hands" (vVar 1)) aN))))))
  (vSetI (plN 2) (vVarD 5) (unO (frO (vCall S__law_mix (aC (frO (vCall S__law_cell_at (aC (vVar 0) (aC (vC (.int 4)) aN)))) (aC (vVar 4) (aC (vFld "Table" "prime" (vVar 1)) aN)))))))))))) vSkip)
  (vSeq (vIfS (toT (vCmp .eq (toD (v2 modI (frD (vCall S__law_cell_at (aC (vVar 0) (aC (vC (.int 5)) aN)))) (toD (vC (.int 3))))) (toD (vC (.int 1))))) (vSetI (plN 2) (toD (v2 modI (toD (v2 divI (frD (vCall S__law_cell_at (aC (vVar 0) (aC (vC (.int 5)) aN)))) (toD (vC (.int 3))))) (toD (vFld "Table" "hands" (vVar 1))))) (unO (vC .none))) vSkip)
  (vSeq (vSet 6 (v2 modI (frD (vCall S__law_cell_at (aC (vVar 0) (aC (vC (.int 6)) aN)))) (toD (vC (.int 4)))))
  (vSeq (vFrz 2 [])
  (vSeq (vSet 7 (frO (vComp (vItEnum (vVarD 2)) (gT 2 (gsC (gN 4) (gsC (gN 12) gsN))) (toT (v1 (fun x => iB (!isN x)) (vVarD 12))) (unO (vTup (vCons (toD (frO (v2 addV (vVarD 4) (toD (vC (.int 1)))))) (vCons (toD (vVar 12)) vNil)))) [4, 12])))
  (vSeq (vSet 8 (vCmp .lt (toD (v1 lenP (vVarD 7))) (frD (v2 addV (frD (v2 addV (toD (vFld "Table" "few" (vVar 1))) (toD (vC (.int 1))))) (frD (v2 mulV (toD (vC (.int 2))) (vVarD 6)))))))
  (vSeq (vSet 9 (vC .none))
  (vSeq (vTry ["VeilError", "BadTable", "Nought", "AlikePoints", "TooFew"] "TooFew" (vSet 9 (frO (vCall S_mended (aC (vVar 1) (aC (frO (v1 listP (vVarD 2))) (aC (vVar 6) aN)))))) 10 (fun c => (vRetP (vAnd (vVar 8) (fun _ => iB (subE c "VeilError"))))))
  (vSeq (vIfS (toT (vVar 8)) (vRetP (vC (.bool false))) vSkip)
  (vSeq (vIfS (toT (v1 (fun x => iB (isN x)) (vVarD 9))) (vRet (vCall S__law_none (aC (vVar 1) (aC (vVar 7) (aC (vVar 6) aN))))) vSkip)
  (vRet (vCall S__law_told_well (aC (vVar 1) (aC (vVar 7) (aC (vVar 9) (aC (vVar 6) aN))))))))))))))))))
noncomputable def S_law_v8 : Fn := mkFn 12 B_law_v8

/-- is_number -/
noncomputable def B_is_number : ST := (vRetP (vChain .le .lt (toD (vC (.int 0))) (vVarD 1) (toD (vFld "Table" "prime" (vVar 0)))))
noncomputable def S_is_number : Fn := mkFn 0 B_is_number

/-- step_right -/
noncomputable def B_step_right : ST := (vSeq (vSet 3 (v2 ixP (vVarD 1) (toD (vC (.int 0)))))
  (vSeq (vIfS (toT (vCmp .eq (vVarD 3) (toD (vC (.str "in"))))) (vRetP (vChain .le .le (toD (vC (.int 1))) (toD (v2 ixP (vVarD 1) (toD (vC (.int 1))))) (toD (vFld "Table" "hands" (vVar 0))))) vSkip)
  (vSeq (vIfS (toT (vCmp .eq (vVarD 3) (toD (vC (.str "fix"))))) (vRet (vCall S_is_number (aC (vVar 0) (aC (v2 ixP (vVarD 1) (toD (vC (.int 1)))) aN)))) vSkip)
  (vSeq (vIfS (vNotT (toT (vChain .le .lt (toD (vC (.int 0))) (toD (v2 ixP (vVarD 1) (toD (vC (.int 1))))) (vVarD 2)))) (vRetP (vC (.bool false))) vSkip)
  (vSeq (vIfS (toT (vCmp .eq (vVarD 3) (toD (vC (.str "by"))))) (vRet (vCall S_is_number (aC (vVar 0) (aC (v2 ixP (vVarD 1) (toD (vC (.int 2)))) aN)))) vSkip)
  (vRetP (vOr (vCmp .isin (vVarD 3) (toD (vTup (vCons (toD (vC (.str "anew"))) (vCons (toD (vC (.str "open"))) vNil))))) (vChain .le .lt (toD (vC (.int 0))) (toD (v2 ixP (vVarD 1) (toD (vC (.int 2))))) (vVarD 2)))))))))
noncomputable def S_step_right : Fn := mkFn 1 B_step_right

/-- right -/
noncomputable def B_right : ST := (vSeq (vIfS (vNotT (toT (vChain .le .le (toD (vC (.int 1))) (toD (v1 lenP (vVarD 1))) (toD (vC (.int 24)))))) (vRetP (vC (.bool false))) vSkip)
  (vRetP (v1 allP (frD (vComp (vItEnum (vVarD 1)) (gT 2 (gsC (gN 2) (gsC (gN 3) gsN))) vYes (vCall S_step_right (aC (vVar 0) (aC (vVar 3) (aC (vVar 2) aN)))) [2, 3])))))
noncomputable def S_right : Fn := mkFn 2 B_right

/-- check_steps -/
noncomputable def B_check_steps : ST := (vIfS (vNotT (toT (frO (vCall S_right (aC (vVar 0) (aC (vVar 1) aN)))))) (vRaise "BadSteps") vSkip)
noncomputable def S_check_steps : Fn := mkFn 0 B_check_steps

/-- step_needs -/
noncomputable def B_step_needs : ST := (vSeq (vIfS (toT (vCmp .eq (toD (v2 ixP (vVarD 1) (toD (vC (.int 0))))) (toD (vC (.str "in"))))) (vRetP (vFld "Table" "few" (vVar 0))) vSkip)
  (vSeq (vIfS (toT (vCmp .isin (toD (v2 ixP (vVarD 1) (toD (vC (.int 0))))) (toD (vTup (vCons (toD (vC (.str "mul"))) (vCons (toD (vC (.str "anew"))) vNil)))))) (vRet (v2 mulV (toD (vFld "Table" "few" (vVar 0))) (toD (vFld "Table" "hands" (vVar 0))))) vSkip)
  (vRetP (vC (.int 0)))))
noncomputable def S_step_needs : Fn := mkFn 0 B_step_needs

/-- needs -/
noncomputable def B_needs : ST := (vSeq (vDrop (vCall S_check_steps (aC (vVar 0) (aC (vVar 1) aN))))
  (vRetP (v1 sumP (frD (vComp (vItL (vVarD 1)) (gN 2) vYes (vCall S_step_needs (aC (vVar 0) (aC (vVar 2) aN))) [2])))))
noncomputable def S_needs : Fn := mkFn 1 B_needs

/-- _law_step_by -/
noncomputable def B__law_step_by : ST := (vSeq (vSet 3 (frO (vCall S__law_mix (aC (vVar 0) (aC (vC (.int 1)) (aC (vC (.int 9)) aN))))))
  (vSeq (vSet 4 (frO (v2 addV (toD (vC (.int 1))) (frD (vCall S__law_mix (aC (vVar 0) (aC (vC (.int 2)) (aC (vFld "Table" "hands" (vVar 2)) aN))))))))
  (vSeq (vIfS (vOrT (toT (vCmp .eq (vVarD 1) (toD (vC (.int 0))))) (toT (vCmp .lt (vVarD 3) (toD (vC (.int 2)))))) (vRetP (vTup (vCons (toD (vC (.str "in"))) (vCons (toD (vVar 4)) vNil)))) vSkip)
  (vSeq (vSet 5 (frO (vCall S__law_mix (aC (vVar 0) (aC (vC (.int 3)) (aC (vVar 1) aN))))))
  (vSeq (vSet 6 (frO (vCall S__law_mix (aC (vVar 0) (aC (vC (.int 4)) (aC (vVar 1) aN))))))
  (vSeq (vSet 7 (frO (vCall S__law_mix (aC (vVar 0) (aC (vC (.int 5)) (aC (vFld "Table" "prime" (vVar 2)) aN))))))
  (vSeq (vIfS (toT (vCmp .eq (vVarD 3) (toD (vC (.int 2))))) (vRetP (vTup (vCons (toD (vC (.str "fix"))) (vCons (toD (vVar 7)) vNil)))) vSkip)
  (vSeq (vIfS (toT (vCmp .eq (vVarD 3) (toD (vC (.int 3))))) (vRetP (vTup (vCons (toD (vC (.str "by"))) (vCons (toD (vVar 5)) (vCons (toD (vVar 7)) vNil))))) vSkip)
  (vSeq (vIfS (toT (vCmp .lt (vVarD 3) (toD (vC (.int 6))))) (vRetP (vTup (vCons (toD (v2 ixP (frD (vLst (vCons (toD (vC (.str "sum"))) (vCons (toD (vC (.str "less"))) vNil)))) (toD (v2 subI (vVarD 3) (toD (vC (.int 4))))))) (vCons (toD (vVar 5)) (vCons (toD (vVar 6)) vNil))))) vSkip)
  (vSeq (vIfS (toT (vCmp .eq (vVarD 3) (toD (vC (.int 6))))) (vRetP (vTup (vCons (toD (vC (.str "mul"))) (vCons (toD (vVar 5)) (vCons (toD (vVar 6)) vNil))))) vSkip)
  (vRetP (vTup (vCons (toD (v2 ixP (frD (vLst (vCons (toD (vC (.str "anew"))) (vCons (toD (vC (.str "open"))) vNil)))) (toD (v2 subI (vVarD 3) (toD (vC (.int 7))))))) (vCons (toD (vVar 5)) vNil))))))))))))))
noncomputable def S__law_step_by : Fn := mkFn 5 B__law_step_by

/-- _law_steps_by -/
noncomputable def B__law_steps_by : ST := (vRet (vComp (v1 rng1 (vVarD 2)) (gN 4) vYes (vCall S__law_step_by (aC (frO (vCall S__law_cell_at (aC (vVar 0) (aC (frO (v2 addV (vVarD 1) (vVarD 4))) aN)))) (aC (vVar 4) (aC (vVar 3) aN)))) [4]))
noncomputable def S__law_steps_by : Fn := mkFn 1 B__law_steps_by

/-- _law_used -/
noncomputable def B__law_used : ST := (vRetP (v1 lenP (frD (vComp (vItL (vVarD 0)) (gN 2) (toT (vCmp .eq (vVarD 2) (toD (vTup (vCons (toD (vC (.str "in"))) (vCons (toD (vVar 1)) vNil)))))) (unO (vVar 2)) [2]))))
noncomputable def S__law_used : Fn := mkFn 1 B__law_used

/-- _law_inputs_by -/
noncomputable def B__law_inputs_by : ST := (vSeq (vSetO 3 (vLst vNil))
  (vSeq (vFor (v2 rng2 (toD (vC (.int 1))) (frD (v2 addV (toD (vFld "Table" "hands" (vVar 2))) (toD (vC (.int 1)))))) (gN 4)
  (vSeq (vSet 5 (frO (v2 addV (frD (vCall S__law_used (aC (vVar 1) (aC (vVar 4) aN)))) (frD (vCall S__law_mix (aC (vVar 0) (aC (frO (v2 addV (toD (vC (.int 60))) (vVarD 4))) (aC (vC (.int 2)) aN))))))))
  (vEx (vApp (plN 3) (vComp (v1 rng1 (vVarD 5)) (gN 6) vYes (vCall S__law_mix (aC (vVar 0) (aC (frO (v2 addV (frD (v2 addV (toD (vC (.int 70))) (frD (v2 mulV (toD (vC (.int 9))) (vVarD 4))))) (vVarD 6))) (aC (vFld "Table" "prime" (vVar 2)) aN)))) [6])))))
  (vRetV 3)))
noncomputable def S__law_inputs_by : Fn := mkFn 4 B__law_inputs_by

/-- _law_needs -/
noncomputable def B__law_needs : ST := (vSeq (vSet 2 (vC (.int 0)))
  (vSeq (vFor (vItL (toD (vVar 0))) (gN 3)
  (vSet 2 (frO (v2 addV (vVarD 2) (frD (v2 mulV (toD (vFld "Table" "few" (vVar 1))) (toD (vDG3 "in" "mul" "anew" (vC (.int 1)) (vFld "Table" "hands" (vVar 1)) (vFld "Table" "hands" (vVar 1)) (toD (v2 ixP (vVarD 3) (toD (vC (.int 0))))) (vC (.int 0))))))))))
  (vRetP (vVar 2))))
noncomputable def S__law_needs : Fn := mkFn 2 B__law_needs

/-- _law_hurt -/
noncomputable def B__law_hurt : ST := (vSeq (vSet 4 (v2 ixP (frD (vLst (vCons (toD (v1 negI (toD (vC (.int 1))))) (vCons (toD (vVar 1)) (vCons (toD (frO (v2 addV (frD (v2 addV (vVarD 1) (toD (vC (.int 1))))) (toD (v2 modI (toD (v2 divI (vVarD 2) (toD (vC (.int 8))))) (toD (vC (.int 10)))))))) vNil))))) (toD (v2 modI (vVarD 2) (toD (vC (.int 3)))))))
  (vSeq (vIfS (toT (vCmp .eq (toD (v2 ixP (vVarD 0) (toD (vC (.int 0))))) (toD (vC (.str "in"))))) (vRetP (vTup (vCons (toD (vC (.str "in"))) (vCons (toD (v2 ixP (frD (vLst (vCons (toD (vC (.int 0))) (vCons (toD (frO (v2 addV (toD (vFld "Table" "hands" (vVar 3))) (toD (vC (.int 1)))))) (vCons (toD (v1 negI (toD (vC (.int 1))))) vNil))))) (toD (v2 modI (vVarD 2) (toD (vC (.int 3))))))) vNil)))) vSkip)
  (vSeq (vIfS (toT (vCmp .eq (toD (v2 ixP (vVarD 0) (toD (vC (.int 0))))) (toD (vC (.str "fix"))))) (vRetP (vTup (vCons (toD (vC (.str "fix"))) (vCons (toD (v2 ixP (frD (vLst (vCons (toD (v1 negI (toD (vC (.int 1))))) (vCons (toD (vFld "Table" "prime" (vVar 3))) (vCons (toD (frO (v2 addV (toD (vFld "Table" "prime" (vVar 3))) (toD (v2 modI (toD (v2 divI (vVarD 2) (toD (vC (.int 8))))) (toD (vC (.int 100)))))))) vNil))))) (toD (v2 modI (vVarD 2) (toD (vC (.int 3))))))) vNil)))) vSkip)
  (vSeq (vIfS (vAndT (toT (vCmp .eq (toD (v2 ixP (vVarD 0) (toD (vC (.int 0))))) (toD (vC (.str "by"))))) (toT (vCmp .eq (toD (v2 modI (toD (v2 divI (vVarD 2) (toD (vC (.int 3))))) (toD (vC (.int 2))))) (toD (vC (.int 0)))))) (vRetP (vTup (vCons (toD (vC (.str "by"))) (vCons (toD (v2 ixP (vVarD 0) (toD (vC (.int 1))))) (vCons (toD (v2 ixP (frD (vLst (vCons (toD (v1 negI (toD (vC (.int 1))))) (vCons (toD (vFld "Table" "prime" (vVar 3))) (vCons (toD (frO (v2 addV (toD (vFld "Table" "prime" (vVar 3))) (toD (v2 modI (toD (v2 divI (vVarD 2) (toD (vC (.int 8))))) (toD (vC (.int 100)))))))) vNil))))) (toD (v2 modI (vVarD 2) (toD (vC (.int 3))))))) vNil))))) vSkip)
  (vSeq (vIfS (vAndT (toT (vCmp .isin (toD (v2 ixP (vVarD 0) (toD (vC (.int 0))))) (toD (vTup (vCons (toD (vC (.str "sum"))) (vCons (toD (vC (.str "less"))) (vCons (toD (vC (.str "mul"))) vNil))))))) (toT (vCmp .eq (toD (v2 modI (toD (v2 divI (vVarD 2) (toD (vC (.int 3))))) (toD (vC (.int 2))))) (toD (vC (.int 0)))))) (vRetP (vTup (vCons (toD (v2 ixP (vVarD 0) (toD (vC (.int 0))))) (vCons (toD (v2 ixP (vVarD 0) (toD (vC (.int 1))))) (vCons (toD (vVar 4)) vNil))))) vSkip)
  (vRet (v2 addV (toD (vTup (vCons (toD (v2 ixP (vVarD 0) (toD (vC (.int 0))))) (vCons (toD (vVar 4)) vNil)))) (frD (vSl (vVarD 0) (vPart (toD (vC (.int 2)))) vNoPart)))))))))
noncomputable def S__law_hurt : Fn := mkFn 1 B__law_hurt

/-- _law_told_needs -/
noncomputable def B__law_told_needs : ST := (vTry ["VeilError", "BadTable", "BadSteps"] "BadSteps" (vRet (vCall S_needs (aC (vVar 0) (aC (vVar 1) aN)))) 2 (fun c => (vRetP (vIf (toT (fun _ => iB (subE c "VeilError"))) (vC .none) (vC (.str "other"))))))
noncomputable def S__law_told_needs : Fn := mkFn 1 B__law_told_needs

/-- law -/
noncomputable def B_law_v9 : ST := (vSeq (vSet 1 (frO (vCall S__law_table_by (aC (frO (vCall S__law_cell_at (aC (vVar 0) (aC (vC (.int 0)) aN)))) aN))))
  (vSeq (vSetO 2 (vCall S__law_steps_by (aC (vVar 0) (aC (vC (.int 4)) (aC (frO (v2 addV (toD (vC (.int 1))) (toD (v2 modI (frD (vCall S__law_cell_at (aC (vVar 0) (aC (vC (.int 1)) aN)))) (toD (vC (.int 24))))))) (aC (vVar 1) aN))))))
  (vSeq (vSet 3 (vCmp .eq (toD (v2 modI (frD (vCall S__law_cell_at (aC (vVar 0) (aC (vC (.int 2)) aN)))) (toD (vC (.int 3))))) (toD (vC (.int 0)))))
  (vSeq (vIfS (vAndT (vNotT (toT (vVar 3))) (toT (vCmp .eq (toD (v2 modI (toD (v2 divI (frD (vCall S__law_cell_at (aC (vVar 0) (aC (vC (.int 2)) aN)))) (toD (vC (.int 3))))) (toD (vC (.int 6))))) (toD (vC (.int 1)))))) (vSet 2 (v2 ixP (frD (vLst (vCons (toD (frO (vLst vNil))) (vCons (toD (frO (v2 mulV (frD (vLst (vCons (toD (vTup (vCons (toD (vC (.str "fix"))) (vCons (toD (vC (.int 1))) vNil)))) vNil))) (toD (vC (.int 25)))))) vNil)))) (toD (v2 modI (toD (v2 divI (frD (vCall S__law_cell_at (aC (vVar 0) (aC (vC (.int 2)) aN)))) (toD (vC (.int 18))))) (toD (vC (.int 2))))))) (vIfS (vNotT (toT (vVar 3))) (vSeq (vSet 4 (v2 modI (frD (vCall S__law_cell_at (aC (vVar 0) (aC (vC (.int 3)) aN)))) (toD (plL (plN 2)))))
  (vSetI (plN 2) (vVarD 4) (unO (frO (vCall S__law_hurt (aC (plP (plX (plN 2) (vVarD 4))) (aC (vVar 4) (aC (v2 divI (frD (vCall S__law_cell_at (aC (vVar 0) (aC (vC (.int 3)) aN)))) (toD (vC (.int 24)))) (aC (vVar 1) aN))))))))) vSkip))
  (vSeq (vFrz 2 [])
  (vSeq (vSet 5 (frO (v1 listP (vVarD 2))))
  (vSeq (vIfS (vNotT (toT (frO (vCall S__law_told (aC (frO (vCall S_right (aC (vVar 1) (aC (vVar 5) aN)))) (aC (vVar 3) aN)))))) (vRetP (vC (.bool false))) vSkip)
  (vSeq (vSet 6 (frO (vCall S__law_told_needs (aC (vVar 1) (aC (vVar 5) aN)))))
  (vSeq (vIfS (vNotT (toT (vVar 3))) (vRetP (vAnd (v1 (fun x => iB (isN x)) (vVarD 6)) (vCmp .eq (vVarD 5) (vVarD 2)))) vSkip)
  (vRetP (vAnd (frO (vCall S__law_whole (aC (vVar 6) aN))) (vAnd (vCmp .eq (vVarD 6) (frD (vCall S__law_needs (aC (vVar 2) (aC (vVar 1) aN))))) (vCmp .eq (vVarD 5) (vVarD 2))))))))))))))
noncomputable def S_law_v9 : Fn := mkFn 6 B_law_v9

/-- used -/
noncomputable def B_used : ST := (vRetP (v1 lenP (frD (vComp (vItL (vVarD 0)) (gN 2) (vAndT (toT (vCmp .eq (toD (v2 ixP (vVarD 2) (toD (vC (.int 0))))) (toD (vC (.str "in"))))) (toT (vCmp .eq (toD (v2 ixP (vVarD 2) (toD (vC (.int 1))))) (vVarD 1)))) (unO (vVar 2)) [2]))))
noncomputable def S_used : Fn := mkFn 1 B_used

/-- check_inputs -/
noncomputable def B_check_inputs : ST := (vSeq (vIfS (toT (vCmp .ne (toD (v1 lenP (vVarD 2))) (toD (vFld "Table" "hands" (vVar 0))))) (vRaise "BadInputs") vSkip)
  (vFor (vItEnum (toD (vVar 2))) (gT 2 (gsC (gN 3) (gsC (gN 4) gsN)))
  (vIfS (vOrT (vNotT (toT (v1 allP (frD (vComp (vItL (vVarD 4)) (gN 5) vYes (vCall S_is_number (aC (vVar 0) (aC (vVar 5) aN))) [5]))))) (toT (vCmp .lt (toD (v1 lenP (vVarD 4))) (frD (vCall S_used (aC (vVar 1) (aC (frO (v2 addV (vVarD 3) (toD (vC (.int 1))))) aN))))))) (vRaise "BadInputs") vSkip)))
noncomputable def S_check_inputs : Fn := mkFn 3 B_check_inputs

/-- joined -/
noncomputable def B_joined : ST := (vSeq (vIfS (toT (vCmp .eq (toD (v2 ixP (vVarD 1) (toD (vC (.int 0))))) (toD (vC (.str "sum"))))) (vRetP (v2 modI (frD (v2 addV (vVarD 2) (vVarD 3))) (toD (vFld "Table" "prime" (vVar 0))))) vSkip)
  (vSeq (vIfS (toT (vCmp .eq (toD (v2 ixP (vVarD 1) (toD (vC (.int 0))))) (toD (vC (.str "less"))))) (vRetP (v2 modI (toD (v2 subI (vVarD 2) (vVarD 3))) (toD (vFld "Table" "prime" (vVar 0))))) vSkip)
  (vRetP (v2 modI (frD (v2 mulV (vVarD 2) (vVarD 3))) (toD (vFld "Table" "prime" (vVar 0)))))))
noncomputable def S_joined : Fn := mkFn 0 B_joined

/-- plain -/
noncomputable def B_plain : ST := (vSeq (vDrop (vCall S_check_steps (aC (vVar 0) (aC (vVar 1) aN))))
  (vSeq (vDrop (vCall S_check_inputs (aC (vVar 0) (aC (vVar 1) (aC (vVar 2) aN)))))
  (vSeq (vSetO 3 (v2 mulV (frD (vLst (vCons (toD (vC (.int 0))) vNil))) (frD (v2 addV (toD (vFld "Table" "hands" (vVar 0))) (toD (vC (.int 1)))))))
  (vSeq (vSetO 4 (vLst vNil))
  (vSeq (vFor (vItL (toD (vVar 1))) (gN 5)
  (vIfS (toT (vCmp .eq (toD (v2 ixP (vVarD 5) (toD (vC (.int 0))))) (toD (vC (.str "in"))))) (vSeq (vEx (vApp (plN 4) (unO (v2 ixP (toD (v2 ixP (vVarD 2) (toD (v2 subI (toD (v2 ixP (vVarD 5) (toD (vC (.int 1))))) (toD (vC (.int 1))))))) (toD (plP (plX (plN 3) (toD (v2 ixP (vVarD 5) (toD (vC (.int 1))))))))))))
  (vSetI (plN 3) (toD (v2 ixP (vVarD 5) (toD (vC (.int 1))))) (unO (frO (v2 addV (toD (plP (plX (plN 3) (toD (v2 ixP (vVarD 5) (toD (vC (.int 1)))))))) (toD (vC (.int 1)))))))) (vIfS (toT (vCmp .eq (toD (v2 ixP (vVarD 5) (toD (vC (.int 0))))) (toD (vC (.str "fix"))))) (vEx (vApp (plN 4) (unO (v2 ixP (vVarD 5) (toD (vC (.int 1))))))) (vIfS (toT (vCmp .eq (toD (v2 ixP (vVarD 5) (toD (vC (.int 0))))) (toD (vC (.str "by"))))) (vEx (vApp (plN 4) (unO (v2 modI (frD (v2 mulV (toD (plP (plX (plN 4) (toD (v2 ixP (vVarD 5) (toD (vC (.int 1)))))))) (toD (v2 ixP (vVarD 5) (toD (vC (.int 2))))))) (toD (vFld "Table" "prime" (vVar 0))))))) (vIfS (toT (vCmp .isin (toD (v2 ixP (vVarD 5) (toD (vC (.int 0))))) (toD (vTup (vCons (toD (vC (.str "anew"))) (vCons (toD (vC (.str "open"))) vNil)))))) (vEx (vApp (plN 4) (unO (plP (plX (plN 4) (toD (v2 ixP (vVarD 5) (toD (vC (.int 1)))))))))) (vEx (vApp (plN 4) (vCall S_joined (aC (vVar 0) (aC (vVar 5) (aC (plP (plX (plN 4) (toD (v2 ixP (vVarD 5) (toD (vC (.int 1))))))) (aC (plP (plX (plN 4) (toD (v2 ixP (vVarD 5) (toD (vC (.int 2))))))) aN))))))))))))
  (vRetV 4))))))
noncomputable def S_plain : Fn := mkFn 3 B_plain

/-- _law_plain -/
noncomputable def B__law_plain : ST := (vSeq (vSetO 3 (vComp (vItL (vVarD 2)) (gN 6) vYes (v1 listP (vVarD 6)) [6]))
  (vSeq (vSetO 4 (vLst vNil))
  (vSeq (vFor (vItL (toD (vVar 1))) (gN 5)
  (vIfS (toT (vCmp .eq (toD (v2 ixP (vVarD 5) (toD (vC (.int 0))))) (toD (vC (.str "in"))))) (vEx (vAppE (plN 4) (vPop0 (plX (plN 3) (toD (v2 subI (toD (v2 ixP (vVarD 5) (toD (vC (.int 1))))) (toD (vC (.int 1))))))))) (vIfS (toT (vCmp .eq (toD (v2 ixP (vVarD 5) (toD (vC (.int 0))))) (toD (vC (.str "fix"))))) (vEx (vApp (plN 4) (unO (v2 ixP (vVarD 5) (toD (vC (.int 1))))))) (vIfS (toT (vCmp .eq (toD (v2 ixP (vVarD 5) (toD (vC (.int 0))))) (toD (vC (.str "by"))))) (vEx (vApp (plN 4) (unO (v2 modI (frD (v2 mulV (toD (plP (plX (plN 4) (toD (v2 ixP (vVarD 5) (toD (vC (.int 1)))))))) (toD (v2 ixP (vVarD 5) (toD (vC (.int 2))))))) (vVarD 0))))) (vIfS (toT (vCmp .eq (toD (v2 ixP (vVarD 5) (toD (vC (.int 0))))) (toD (vC (.str "sum"))))) (vEx (vApp (plN 4) (unO (v2 modI (frD (v2 addV (toD (plP (plX (plN 4) (toD (v2 ixP (vVarD 5) (toD (vC (.int 1)))))))) (toD (plP (plX (plN 4) (toD (v2 ixP (vVarD 5) (toD (vC (.int 2)))))))))) (vVarD 0))))) (vIfS (toT (vCmp .eq (toD (v2 ixP (vVarD 5) (toD (vC (.int 0))))) (toD (vC (.str "less"))))) (vEx (vApp (plN 4) (unO (v2 modI (toD (v2 subI (toD (plP (plX (plN 4) (toD (v2 ixP (vVarD 5) (toD (vC (.int 1)))))))) (toD (plP (plX (plN 4) (toD (v2 ixP (vVarD 5) (toD (vC (.int 2)))))))))) (vVarD 0))))) (vIfS (toT (vCmp .eq (toD (v2 ixP (vVarD 5) (toD (vC (.int 0))))) (toD (vC (.str "mul"))))) (vEx (vApp (plN 4) (unO (v2 modI (frD (v2 mulV (toD (plP (plX (plN 4) (toD (v2 ixP (vVarD 5) (toD (vC (.int 1)))))))) (toD (plP (plX (plN 4) (toD (v2 ixP (vVarD 5) (toD (vC (.int 2)))))))))) (vVarD 0))))) (vEx (vApp (plN 4) (unO (plP (plX (plN 4) (toD (v2 ixP (vVarD 5) (toD (vC (.int 1)))))))))))))))))
  (vRetV 4))))
noncomputable def S__law_plain : Fn := mkFn 4 B__law_plain

/-- _law_spoilt -/
noncomputable def B__law_spoilt : ST := (vSeq (vSetO 4 (vComp (vItL (vVarD 0)) (gN 7) vYes (v1 listP (vVarD 7)) [7]))
  (vSeq (vSet 5 (v2 modI (toD (v2 divI (vVarD 2) (toD (vC (.int 4))))) (toD (vFld "Table" "hands" (vVar 3)))))
  (vSeq (vIfS (toT (vCmp .eq (toD (v2 modI (vVarD 2) (toD (vC (.int 4))))) (toD (vC (.int 0))))) (vSeq (vFrz 4 [])
  (vRet (v2 addV (frD (vSl (vVarD 4) vNoPart (vPart (vVarD 5)))) (frD (vSl (vVarD 4) (vPart (frD (v2 addV (vVarD 5) (toD (vC (.int 1)))))) vNoPart))))) vSkip)
  (vSeq (vIfS (toT (vCmp .eq (toD (v2 modI (vVarD 2) (toD (vC (.int 4))))) (toD (vC (.int 1))))) (vSeq (vFrz 4 [])
  (vRet (v2 addV (frD (v2 addV (frD (vSl (vVarD 4) vNoPart (vPart (vVarD 5)))) (frD (vLst (vCons (toD (frO (vLst vNil))) vNil))))) (frD (vSl (vVarD 4) (vPart (vVarD 5)) vNoPart))))) vSkip)
  (vSeq (vSet 6 (frO (vCall S__law_used (aC (vVar 1) (aC (frO (v2 addV (vVarD 5) (toD (vC (.int 1))))) aN)))))
  (vSeq (vIfS (vAndT (toT (vCmp .eq (toD (v2 modI (vVarD 2) (toD (vC (.int 4))))) (toD (vC (.int 2))))) (toT (vCmp .gt (vVarD 6) (toD (vC (.int 0)))))) (vSeq (vSetI (plN 4) (vVarD 5) (vSl (plD (plX (plN 4) (vVarD 5))) vNoPart (vPart (toD (v2 subI (vVarD 6) (toD (vC (.int 1))))))))
  (vRetV 4)) vSkip)
  (vSeq (vEx (vIns (plX (plN 4) (vVarD 5)) (toD (v2 modI (toD (v2 divI (vVarD 2) (toD (vC (.int 32))))) (frD (v2 addV (toD (plL (plX (plN 4) (vVarD 5)))) (toD (vC (.int 1))))))) (v2 ixP (frD (vLst (vCons (toD (v1 negI (toD (vC (.int 1))))) (vCons (toD (vFld "Table" "prime" (vVar 3))) (vCons (toD (frO (v2 addV (toD (vFld "Table" "prime" (vVar 3))) (toD (vC (.int 5)))))) vNil))))) (toD (v2 modI (toD (v2 divI (vVarD 2) (toD (vC (.int 300))))) (toD (vC (.int 3))))))))
  (vRetV 4))))))))
noncomputable def S__law_spoilt : Fn := mkFn 4 B__law_spoilt

/-- _law_refused -/
noncomputable def B__law_refused_v1 : ST := (vSeq (vTry ["VeilError", "BadTable", "BadSteps", "BadInputs"] "BadInputs" (vDrop (vCall S_plain (aC (vVar 0) (aC (vVar 1) (aC (vVar 2) aN))))) 3 (fun c => (vRetP (fun _ => iB (subE c "VeilError")))))
  (vRetP (vC (.bool false))))
noncomputable def S__law_refused_v1 : Fn := mkFn 1 B__law_refused_v1

/-- _law_steps_refused -/
noncomputable def B__law_steps_refused : ST := (vSeq (vTry ["VeilError", "BadTable", "BadSteps", "BadInputs"] "BadSteps" (vDrop (vCall S_plain (aC (vVar 0) (aC (vVar 1) (aC (vVar 2) aN))))) 3 (fun c => (vRetP (vAnd (fun _ => iB (subE c "VeilError")) (vNot (fun _ => iB (subE c "BadInputs")))))))
  (vRetP (vC (.bool false))))
noncomputable def S__law_steps_refused : Fn := mkFn 1 B__law_steps_refused

/-- law -/
noncomputable def B_law_v10 : ST := (vSeq (vSet 1 (frO (vCall S__law_table_by (aC (frO (vCall S__law_cell_at (aC (vVar 0) (aC (vC (.int 0)) aN)))) aN))))
  (vSeq (vSet 2 (frO (vCall S__law_steps_by (aC (vVar 0) (aC (vC (.int 4)) (aC (frO (v2 addV (toD (vC (.int 1))) (toD (v2 modI (frD (vCall S__law_cell_at (aC (vVar 0) (aC (vC (.int 1)) aN)))) (toD (vC (.int 20))))))) (aC (vVar 1) aN)))))))
  (vSeq (vSet 3 (frO (vCall S__law_inputs_by (aC (frO (vCall S__law_cell_at (aC (vVar 0) (aC (vC (.int 2)) aN)))) (aC (vVar 2) (aC (vVar 1) aN))))))
  (vSeq (vIfS (toT (vCmp .eq (toD (v2 modI (frD (vCall S__law_cell_at (aC (vVar 0) (aC (vC (.int 3)) aN)))) (toD (vC (.int 3))))) (toD (vC (.int 1))))) (vSeq (vSet 4 (frO (vCall S__law_spoilt (aC (vVar 3) (aC (vVar 2) (aC (v2 divI (frD (vCall S__law_cell_at (aC (vVar 0) (aC (vC (.int 3)) aN)))) (toD (vC (.int 3)))) (aC (vVar 1) aN)))))))
  (vSeq (vIfS (vNotT (toT (frO (vCall S__law_refused_v1 (aC (vVar 1) (aC (vVar 2) (aC (vVar 4) aN))))))) (vRetP (vC (.bool false))) vSkip)
  (vSeq (vSet 5 (v2 ixP (frD (vLst (vCons (toD (frO (vLst (vCons (toD (vTup (vCons (toD (vC (.str "in"))) (vCons (toD (vC (.int 0))) vNil)))) vNil)))) (vCons (toD (frO (vLst (vCons (toD (vTup (vCons (toD (vC (.str "in"))) (vCons (toD (vC (.int 1))) vNil)))) (vCons (toD (vTup (vCons (toD (vC (.str "open"))) (vCons (toD (vC (.int 1))) vNil)))) vNil))))) (vCons (toD (frO (vLst vNil))) vNil))))) (toD (v2 modI (toD (v2 divI (frD (vCall S__law_cell_at (aC (vVar 0) (aC (vC (.int 1)) aN)))) (toD (vC (.int 20))))) (toD (vC (.int 3)))))))
  (vIfS (vOrT (vNotT (toT (frO (vCall S__law_steps_refused (aC (vVar 1) (aC (vVar 5) (aC (vVar 3) aN))))))) (vNotT (toT (frO (vCall S__law_steps_refused (aC (vVar 1) (aC (vVar 5) (aC (vVar 4) aN)))))))) (vRetP (vC (.bool false))) vSkip)))) vSkip)
  (vSeq (vSet 6 (frO (vComp (vItL (vVarD 3)) (gN 9) vYes (v1 listP (vVarD 9)) [9])))
  (vSeq (vSet 7 (frO (v1 listP (vVarD 2))))
  (vSeq (vSet 8 (frO (vCall S_plain (aC (vVar 1) (aC (vVar 2) (aC (vVar 6) aN))))))
  (vRetP (vAnd (frO (vCall S__law_row (aC (vVar 8) (aC (frO (vCall S__law_plain (aC (vFld "Table" "prime" (vVar 1)) (aC (vVar 2) (aC (vVar 3) aN))))) aN)))) (vAnd (vCmp .eq (vVarD 6) (vVarD 3)) (vCmp .eq (vVarD 2) (vVarD 7))))))))))))
noncomputable def S_law_v10 : Fn := mkFn 9 B_law_v10

/-- Desk.__init__ -/
noncomputable def B_Desk___init__ : ST := (vSeq (vSetF "Desk" 0 "table" (unO (vVar 1)))
  (vSeq (vSetF "Desk" 0 "left" (vComp (vItL (vVarD 2)) (gN 4) vYes (v1 listP (vVarD 4)) [4]))
  (vSeq (vSetF "Desk" 0 "chance" (unO (frO (v1 listP (vVarD 3)))))
  (vSeq (vSetF "Desk" 0 "shares" (vLst vNil))
  (vSeq (vSetF "Desk" 0 "letters" (vLst vNil))
  (vSetF "Desk" 0 "weights" (unO (frO (vCall S_weights (aC (vVar 1) aN))))))))))
noncomputable def S_Desk___init__ : Fn := mkFn 1 B_Desk___init__

/-- Desk.send -/
noncomputable def B_Desk_send : ST := (vFor (v2 rng2 (toD (vC (.int 1))) (frD (v2 addV (toD (vFld "Table" "hands" (plP (plF "Desk" "table" (plN 0))))) (toD (vC (.int 1)))))) (gN 3)
  (vIfS (toT (vCmp .ne (vVarD 3) (vVarD 1))) (vEx (vApp (plF "Desk" "letters" (plN 0)) (unO (vTup (vCons (toD (plL (plF "Desk" "shares" (plN 0)))) (vCons (toD (vVar 1)) (vCons (toD (vVar 3)) (vCons (toD (v2 ixP (vVarD 2) (toD (v2 subI (vVarD 3) (toD (vC (.int 1))))))) vNil)))))))) vSkip))
noncomputable def S_Desk_send : Fn := mkFn 1 B_Desk_send

/-- Desk.deal -/
noncomputable def B_Desk_deal : ST := (vSeq (vSet 3 (vFld "Table" "few" (plP (plF "Desk" "table" (plN 0)))))
  (vSeq (vSet 4 (frO (vSl (toD (plP (plF "Desk" "chance" (plN 0)))) vNoPart (vPart (vVarD 3)))))
  (vSeq (vSetF "Desk" 0 "chance" (unO (frO (vSl (toD (plP (plF "Desk" "chance" (plN 0)))) (vPart (vVarD 3)) vNoPart))))
  (vSeq (vSet 5 (frO (vCall S_dealt (aC (plP (plF "Desk" "table" (plN 0))) (aC (vVar 2) (aC (vVar 4) aN))))))
  (vSeq (vEx (vMethX "Desk" "send" S_Desk_send 0 (xP (pF (vVar 1) (pF (vVar 5) pN)))))
  (vRetP (vVar 5)))))))
noncomputable def S_Desk_deal : Fn := mkFn 3 B_Desk_deal

/-- Desk.summed -/
noncomputable def B_Desk_summed : ST := (vSeq (vSetO 3 (vLst vNil))
  (vSeq (vFor (v1 rng1 (toD (vFld "Table" "hands" (plP (plF "Desk" "table" (plN 0)))))) (gN 4)
  (vEx (vApp (plN 3) (unO (v2 modI (toD (v1 sumP (frD (vComp (vItZip (vVarD 2) (vVarD 1)) (gT 2 (gsC (gN 5) (gsC (gN 6) gsN))) vYes (v2 mulV (vVarD 5) (toD (v2 ixP (vVarD 6) (vVarD 4)))) [5, 6])))) (toD (vFld "Table" "prime" (plP (plF "Desk" "table" (plN 0))))))))))
  (vRetV 3)))
noncomputable def S_Desk_summed : Fn := mkFn 4 B_Desk_summed

/-- Desk.local -/
noncomputable def B_Desk_local : ST := (vSeq (vSet 2 (plP (plX (plF "Desk" "shares" (plN 0)) (toD (v2 ixP (vVarD 1) (toD (vC (.int 1))))))))
  (vSeq (vSet 3 (plP (plX (plF "Desk" "shares" (plN 0)) (toD (v2 ixP (vVarD 1) (toD (vC (.int 2))))))))
  (vRet (vComp (vItZip (vVarD 2) (vVarD 3)) (gT 2 (gsC (gN 4) (gsC (gN 5) gsN))) vYes (vCall S_joined (aC (plP (plF "Desk" "table" (plN 0))) (aC (vVar 1) (aC (vVar 4) (aC (vVar 5) aN))))) [4, 5]))))
noncomputable def S_Desk_local : Fn := mkFn 4 B_Desk_local

/-- Desk.made -/
noncomputable def B_Desk_made : ST := (vSeq (vSet 2 (vFld "Table" "hands" (plP (plF "Desk" "table" (plN 0)))))
  (vSeq (vIfS (toT (vCmp .eq (toD (v2 ixP (vVarD 1) (toD (vC (.int 0))))) (toD (vC (.str "in"))))) (vRetE (vMethX "Desk" "deal" S_Desk_deal 0 (xF (v2 ixP (vVarD 1) (toD (vC (.int 1)))) (xE (vPop0 (plX (plF "Desk" "left" (plN 0)) (toD (v2 subI (toD (v2 ixP (vVarD 1) (toD (vC (.int 1))))) (toD (vC (.int 1))))))) (xP pN))))) vSkip)
  (vSeq (vIfS (toT (vCmp .eq (toD (v2 ixP (vVarD 1) (toD (vC (.int 0))))) (toD (vC (.str "fix"))))) (vRet (v2 mulV (frD (vLst (vCons (toD (v2 ixP (vVarD 1) (toD (vC (.int 1))))) vNil))) (vVarD 2))) vSkip)
  (vSeq (vIfS (toT (vCmp .eq (toD (v2 ixP (vVarD 1) (toD (vC (.int 0))))) (toD (vC (.str "by"))))) (vRet (vComp (vItL (toD (plP (plX (plF "Desk" "shares" (plN 0)) (toD (v2 ixP (vVarD 1) (toD (vC (.int 1))))))))) (gN 5) vYes (unO (v2 modI (frD (v2 mulV (vVarD 5) (toD (v2 ixP (vVarD 1) (toD (vC (.int 2))))))) (toD (vFld "Table" "prime" (plP (plF "Desk" "table" (plN 0))))))) [5])) vSkip)
  (vSeq (vIfS (toT (vCmp .eq (toD (v2 ixP (vVarD 1) (toD (vC (.int 0))))) (toD (vC (.str "open"))))) (vSeq (vFor (v2 rng2 (toD (vC (.int 1))) (frD (v2 addV (vVarD 2) (toD (vC (.int 1)))))) (gN 3)
  (vEx (vMethX "Desk" "send" S_Desk_send 0 (xP (pF (vVar 3) (pF (frO (v2 mulV (frD (vLst (vCons (toD (v2 ixP (toD (plP (plX (plF "Desk" "shares" (plN 0)) (toD (v2 ixP (vVarD 1) (toD (vC (.int 1)))))))) (toD (v2 subI (vVarD 3) (toD (vC (.int 1))))))) vNil))) (vVarD 2))) pN))))))
  (vRet (v1 listP (toD (plP (plX (plF "Desk" "shares" (plN 0)) (toD (v2 ixP (vVarD 1) (toD (vC (.int 1))))))))))) vSkip)
  (vSeq (vIfS (toT (vCmp .eq (toD (v2 ixP (vVarD 1) (toD (vC (.int 0))))) (toD (vC (.str "mul"))))) (vSeq (vSetE 4 (frE (vCompE (vItEnum (toD (frO (vMethP "Desk" "local" S_Desk_local 0 (pF (vVar 1) pN))))) (gT 2 (gsC (gN 6) (gsC (gN 7) gsN))) (vMethX "Desk" "deal" S_Desk_deal 0 (xP (pF (frO (v2 addV (vVarD 6) (toD (vC (.int 1))))) (pF (vVar 7) pN)))) [6, 7])))
  (vRet (vMethP "Desk" "summed" S_Desk_summed 0 (pF (vVar 4) (pF (plP (plF "Desk" "weights" (plN 0))) pN))))) vSkip)
  (vSeq (vIfS (toT (vCmp .eq (toD (v2 ixP (vVarD 1) (toD (vC (.int 0))))) (toD (vC (.str "anew"))))) (vSeq (vSetE 4 (frE (vCompE (v1 rng1 (vVarD 2)) (gN 6) (vMethX "Desk" "deal" S_Desk_deal 0 (xP (pF (frO (v2 addV (vVarD 6) (toD (vC (.int 1))))) (pF (vC (.int 0)) pN)))) [6])))
  (vRet (vMethP "Desk" "summed" S_Desk_summed 0 (pF (frO (v2 addV (frD (vLst (vCons (toD (plP (plX (plF "Desk" "shares" (plN 0)) (toD (v2 ixP (vVarD 1) (toD (vC (.int 1)))))))) vNil))) (vVarD 4))) (pF (frO (v2 mulV (frD (vLst (vCons (toD (vC (.int 1))) vNil))) (frD (v2 addV (vVarD 2) (toD (vC (.int 1))))))) pN))))) vSkip)
  (vRet (vMethP "Desk" "local" S_Desk_local 0 (pF (vVar 1) pN))))))))))
noncomputable def S_Desk_made : Fn := mkFn 6 B_Desk_made

/-- Desk.step -/
noncomputable def B_Desk_step : ST := (vEx (vAppE (plF "Desk" "shares" (plN 0)) (frE (vMethX "Desk" "made" S_Desk_made 0 (xP (pF (vVar 1) pN))))))
noncomputable def S_Desk_step : Fn := mkFn 0 B_Desk_step

/-- check_chance -/
noncomputable def B_check_chance : ST := (vIfS (vOrT (toT (vCmp .ne (toD (v1 lenP (vVarD 2))) (frD (vCall S_needs (aC (vVar 0) (aC (vVar 1) aN)))))) (vNotT (toT (v1 allP (frD (vComp (vItL (vVarD 2)) (gN 3) vYes (vCall S_is_number (aC (vVar 0) (aC (vVar 3) aN))) [3])))))) (vRaise "BadChance") vSkip)
noncomputable def S_check_chance : Fn := mkFn 1 B_check_chance

/-- check_all -/
noncomputable def B_check_all : ST := (vSeq (vDrop (vCall S_check_steps (aC (vVar 0) (aC (vVar 1) aN))))
  (vSeq (vDrop (vCall S_check_inputs (aC (vVar 0) (aC (vVar 1) (aC (vVar 2) aN)))))
  (vDrop (vCall S_check_chance (aC (vVar 0) (aC (vVar 1) (aC (vVar 3) aN)))))))
noncomputable def S_check_all : Fn := mkFn 0 B_check_all

/-- run -/
noncomputable def B_run : ST := (vSeq (vDrop (vCall S_check_all (aC (vVar 0) (aC (vVar 1) (aC (vVar 2) (aC (vVar 3) aN))))))
  (vSeq (vSetO 4 (vMake "Desk" S_Desk___init__ (aC (vVar 0) (aC (vVar 2) (aC (vVar 3) aN)))))
  (vSeq (vSetO 5 (vLst vNil))
  (vSeq (vFor (vItEnum (toD (vVar 1))) (gT 2 (gsC (gN 6) (gsC (gN 7) gsN)))
  (vSeq (vEx (vMethX "Desk" "step" S_Desk_step 4 (xP (pF (vVar 7) pN))))
  (vIfS (toT (vCmp .eq (toD (v2 ixP (vVarD 7) (toD (vC (.int 0))))) (toD (vC (.str "open"))))) (vEx (vApp (plN 5) (unO (vTup (vCons (toD (vVar 6)) (vCons (toD (v2 ixP (frD (vMethP "Desk" "summed" S_Desk_summed 4 (pF (frO (vComp (vItL (toD (plP (plX (plF "Desk" "shares" (plN 4)) (vVarD 6))))) (gN 8) vYes (v2 mulV (frD (vLst (vCons (toD (vVar 8)) vNil))) (toD (vFld "Table" "hands" (vVar 0)))) [8])) (pF (plP (plF "Desk" "weights" (plN 4))) pN)))) (toD (vC (.int 0))))) vNil)))))) vSkip)))
  (vSeq (vFrz 5 [])
  (vSeq (vFrz 4 [.fld "Desk" "shares"])
  (vSeq (vFrz 4 [.fld "Desk" "letters"])
  (vRetP (vTup (vCons (toD (plP (plF "Desk" "shares" (plN 4)))) (vCons (toD (plP (plF "Desk" "letters" (plN 4)))) (vCons (toD (vVar 5)) vNil))))))))))))
noncomputable def S_run : Fn := mkFn 5 B_run

/-- _law_back -/
noncomputable def B__law_back : ST := (vSeq (vSet 2 (vC (.int 1)))
  (vSeq (vFor (v1 rng1 (toD (v2 subI (vVarD 0) (toD (vC (.int 2)))))) (gN 3)
  (vSet 2 (v2 modI (frD (v2 mulV (vVarD 2) (vVarD 1))) (vVarD 0))))
  (vRetP (vVar 2))))
noncomputable def S__law_back : Fn := mkFn 2 B__law_back

/-- _law_weights -/
noncomputable def B__law_weights : ST := (vSeq (vSetO 2 (vLst vNil))
  (vSeq (vFor (v2 rng2 (toD (vC (.int 1))) (frD (v2 addV (vVarD 1) (toD (vC (.int 1)))))) (gN 3)
  (vSeq (vSet 4 (vC (.int 1)))
  (vSeq (vFor (v2 rng2 (toD (vC (.int 1))) (frD (v2 addV (vVarD 1) (toD (vC (.int 1)))))) (gN 5)
  (vIfS (toT (vCmp .ne (vVarD 5) (vVarD 3))) (vSet 4 (v2 modI (frD (v2 mulV (frD (v2 mulV (vVarD 4) (vVarD 5))) (frD (vCall S__law_back (aC (vVar 0) (aC (v2 modI (toD (v2 subI (vVarD 5) (vVarD 3))) (vVarD 0)) aN)))))) (vVarD 0))) vSkip))
  (vEx (vApp (plN 2) (unO (vVar 4)))))))
  (vRetV 2)))
noncomputable def S__law_weights : Fn := mkFn 4 B__law_weights

/-- _law_dealt -/
noncomputable def B__law_dealt : ST := (vSeq (vSetO 3 (vLst (vCons (toD (vVar 1)) vNil)))
  (vSeq (vFor (v1 rng1 (toD (vFld "Table" "few" (vVar 0)))) (gN 4)
  (vEx (vAppE (plN 3) (vPop0 (plN 2)))))
  (vSeq (vFrz 3 [])
  (vRet (vComp (v2 rng2 (toD (vC (.int 1))) (frD (v2 addV (toD (vFld "Table" "hands" (vVar 0))) (toD (vC (.int 1)))))) (gN 5) vYes (vCall S__law_worth (aC (vFld "Table" "prime" (vVar 0)) (aC (vVar 3) (aC (vVar 5) aN)))) [5])))))
noncomputable def S__law_dealt : Fn := mkFn 3 B__law_dealt

/-- _law_sent -/
noncomputable def B__law_sent : ST := (vSeq (vSet 4 (frO (vComp (v2 rng2 (toD (vC (.int 1))) (frD (v2 addV (toD (vFld "Table" "hands" (vVar 0))) (toD (vC (.int 1)))))) (gN 5) (toT (vCmp .ne (vVarD 5) (vVarD 2))) (unO (vVar 5)) [5])))
  (vRet (vComp (vItL (vVarD 4)) (gN 5) vYes (unO (vTup (vCons (toD (vVar 1)) (vCons (toD (vVar 2)) (vCons (toD (vVar 5)) (vCons (toD (v2 ixP (vVarD 3) (toD (v2 subI (vVarD 5) (toD (vC (.int 1))))))) vNil)))))) [5])))
noncomputable def S__law_sent : Fn := mkFn 2 B__law_sent

/-- _law_mixed -/
noncomputable def B__law_mixed : ST := (vSeq (vSetO 3 (vLst vNil))
  (vSeq (vFor (v1 rng1 (toD (vFld "Table" "hands" (vVar 0)))) (gN 4)
  (vSeq (vSet 5 (vC (.int 0)))
  (vSeq (vFor (vItZip (toD (vVar 2)) (toD (vVar 1))) (gT 2 (gsC (gN 6) (gsC (gN 7) gsN)))
  (vSet 5 (frO (v2 addV (vVarD 5) (frD (v2 mulV (vVarD 6) (toD (v2 ixP (vVarD 7) (vVarD 4)))))))))
  (vEx (vApp (plN 3) (unO (v2 modI (vVarD 5) (toD (vFld "Table" "prime" (vVar 0))))))))))
  (vRetV 3)))
noncomputable def S__law_mixed : Fn := mkFn 5 B__law_mixed

/-- _law_local -/
noncomputable def B__law_local : ST := (vSeq (vIfS (toT (vCmp .eq (vVarD 1) (toD (vC (.str "sum"))))) (vRet (vComp (vItZip (vVarD 2) (vVarD 3)) (gT 2 (gsC (gN 4) (gsC (gN 5) gsN))) vYes (unO (v2 modI (frD (v2 addV (vVarD 4) (vVarD 5))) (vVarD 0))) [4, 5])) vSkip)
  (vSeq (vIfS (toT (vCmp .eq (vVarD 1) (toD (vC (.str "less"))))) (vRet (vComp (vItZip (vVarD 2) (vVarD 3)) (gT 2 (gsC (gN 4) (gsC (gN 5) gsN))) vYes (unO (v2 modI (toD (v2 subI (vVarD 4) (vVarD 5))) (vVarD 0))) [4, 5])) vSkip)
  (vRet (vComp (vItZip (vVarD 2) (vVarD 3)) (gT 2 (gsC (gN 4) (gsC (gN 5) gsN))) vYes (unO (v2 modI (frD (v2 mulV (vVarD 4) (vVarD 5))) (vVarD 0))) [4, 5]))))
noncomputable def S__law_local : Fn := mkFn 2 B__law_local

/-- _law_stepped -/
noncomputable def B__law_stepped : ST := (vSeq (vAsg (gT 2 (gsC (gN 6) (gsC (gN 7) gsN))) (toD (vTup (vCons (toD (vFld "Table" "prime" (vVar 0))) (vCons (toD (vFld "Table" "hands" (vVar 0))) vNil)))))
  (vSeq (vIfS (toT (vCmp .eq (toD (v2 ixP (vVarD 1) (toD (vC (.int 0))))) (toD (vC (.str "fix"))))) (vRetP (vTup (vCons (toD (frO (v2 mulV (frD (vLst (vCons (toD (v2 ixP (vVarD 1) (toD (vC (.int 1))))) vNil))) (vVarD 7)))) (vCons (toD (frO (vLst vNil))) vNil)))) vSkip)
  (vSeq (vIfS (toT (vCmp .eq (toD (v2 ixP (vVarD 1) (toD (vC (.int 0))))) (toD (vC (.str "by"))))) (vRetP (vTup (vCons (toD (frO (vComp (vItL (toD (v2 ixP (vVarD 3) (toD (v2 ixP (vVarD 1) (toD (vC (.int 1)))))))) (gN 13) vYes (unO (v2 modI (frD (v2 mulV (vVarD 13) (toD (v2 ixP (vVarD 1) (toD (vC (.int 2))))))) (vVarD 6))) [13]))) (vCons (toD (frO (vLst vNil))) vNil)))) vSkip)
  (vSeq (vIfS (toT (vCmp .eq (toD (v2 ixP (vVarD 1) (toD (vC (.int 0))))) (toD (vC (.str "in"))))) (vSeq (vSetE 8 (frE (vCallX S__law_dealt (xF (vVar 0) (xE (vPop0 (plX (plN 4) (toD (v2 subI (toD (v2 ixP (vVarD 1) (toD (vC (.int 1))))) (toD (vC (.int 1))))))) (xR 5 (xP pN)))))))
  (vRetP (vTup (vCons (toD (vVar 8)) (vCons (toD (frO (vCall S__law_sent (aC (vVar 0) (aC (vVar 2) (aC (v2 ixP (vVarD 1) (toD (vC (.int 1)))) (aC (vVar 8) aN))))))) vNil))))) vSkip)
  (vSeq (vSet 9 (frO (vLst vNil)))
  (vSeq (vIfS (toT (vCmp .eq (toD (v2 ixP (vVarD 1) (toD (vC (.int 0))))) (toD (vC (.str "open"))))) (vSeq (vFor (v2 rng2 (toD (vC (.int 1))) (frD (v2 addV (vVarD 7) (toD (vC (.int 1)))))) (gN 10)
  (vSet 9 (frO (v2 addV (vVarD 9) (frD (vCall S__law_sent (aC (vVar 0) (aC (vVar 2) (aC (vVar 10) (aC (frO (v2 mulV (frD (vLst (vCons (toD (v2 ixP (toD (v2 ixP (vVarD 3) (toD (v2 ixP (vVarD 1) (toD (vC (.int 1))))))) (toD (v2 subI (vVarD 10) (toD (vC (.int 1))))))) vNil))) (vVarD 7))) aN))))))))))
  (vRetP (vTup (vCons (toD (v2 ixP (vVarD 3) (toD (v2 ixP (vVarD 1) (toD (vC (.int 1))))))) (vCons (toD (vVar 9)) vNil))))) vSkip)
  (vSeq (vIfS (toT (vCmp .eq (toD (v2 ixP (vVarD 1) (toD (vC (.int 0))))) (toD (vC (.str "anew"))))) (vSeq (vSetE 11 (frE (vCompE (v1 rng1 (vVarD 7)) (gN 12) (vCallX S__law_dealt (xF (vVar 0) (xF (vC (.int 0)) (xR 5 (xP pN))))) [12])))
  (vSet 8 (frO (vCall S__law_mixed (aC (vVar 0) (aC (frO (v2 addV (frD (vLst (vCons (toD (v2 ixP (vVarD 3) (toD (v2 ixP (vVarD 1) (toD (vC (.int 1))))))) vNil))) (vVarD 11))) (aC (frO (v2 mulV (frD (vLst (vCons (toD (vC (.int 1))) vNil))) (frD (v2 addV (vVarD 7) (toD (vC (.int 1))))))) aN))))))) (vSeq (vSet 8 (frO (vCall S__law_local (aC (vVar 6) (aC (v2 ixP (vVarD 1) (toD (vC (.int 0)))) (aC (v2 ixP (vVarD 3) (toD (v2 ixP (vVarD 1) (toD (vC (.int 1)))))) (aC (v2 ixP (vVarD 3) (toD (v2 ixP (vVarD 1) (toD (vC (.int 2)))))) aN)))))))
  (vSeq (vIfS (toT (vCmp .ne (toD (v2 ixP (vVarD 1) (toD (vC (.int 0))))) (toD (vC (.str "mul"))))) (vRetP (vTup (vCons (toD (vVar 8)) (vCons (toD (frO (vLst vNil))) vNil)))) vSkip)
  (vSeq (vSetE 11 (frE (vCompE (vItL (toD (vVar 8))) (gN 14) (vCallX S__law_dealt (xF (vVar 0) (xF (vVar 14) (xR 5 (xP pN))))) [14])))
  (vSet 8 (frO (vCall S__law_mixed (aC (vVar 0) (aC (vVar 11) (aC (frO (vCall S__law_weights (aC (vVar 6) (aC (vVar 7) aN)))) aN))))))))))
  (vSeq (vFor (v1 rng1 (vVarD 7)) (gN 12)
  (vSet 9 (frO (v2 addV (vVarD 9) (frD (vCall S__law_sent (aC (vVar 0) (aC (vVar 2) (aC (frO (v2 addV (vVarD 12) (toD (vC (.int 1))))) (aC (v2 ixP (vVarD 11) (vVarD 12)) aN))))))))))
  (vRetP (vTup (vCons (toD (vVar 8)) (vCons (toD (vVar 9)) vNil))))))))))))
noncomputable def S__law_stepped : Fn := mkFn 9 B__law_stepped

/-- _law_letters -/
noncomputable def B__law_letters : ST := (vSeq (vIfS (vOrT (vNotT (toT (v1 (fun y => iB (isI .list y)) (vVarD 0)))) (toT (vCmp .ne (toD (v1 lenP (vVarD 0))) (toD (v1 lenP (vVarD 1)))))) (vRetP (vC (.bool false))) vSkip)
  (vSeq (vFor (vItZip (toD (vVar 0)) (toD (vVar 1))) (gT 2 (gsC (gN 2) (gsC (gN 3) gsN)))
  (vSeq (vIfS (vOrT (vNotT (toT (v1 (fun y => iB (isI .tuple y)) (vVarD 2)))) (vOrT (toT (vCmp .ne (toD (v1 lenP (vVarD 2))) (toD (v1 lenP (vVarD 3))))) (vNotT (toT (v1 allP (frD (vComp (vItL (vVarD 2)) (gN 4) vYes (vCall S__law_whole (aC (vVar 4) aN)) [4]))))))) (vRetP (vC (.bool false))) vSkip)
  (vIfS (toT (vCmp .ne (vVarD 2) (vVarD 3))) (vRetP (vC (.bool false))) vSkip)))
  (vRetP (vC (.bool true)))))
noncomputable def S__law_letters : Fn := mkFn 3 B__law_letters

/-- _law_quiet -/
noncomputable def B__law_quiet : ST := (vRet (vComp (vItL (vVarD 0)) (gN 1) vYes (vIf (toT (vCmp .eq (toD (v2 ixP (vVarD 1) (toD (vC (.int 0))))) (toD (vC (.str "open"))))) (unO (vTup (vCons (toD (vC (.str "anew"))) (vCons (toD (v2 ixP (vVarD 1) (toD (vC (.int 1))))) vNil)))) (unO (vVar 1))) [1]))
noncomputable def S__law_quiet : Fn := mkFn 1 B__law_quiet

/-- _law_some_by -/
noncomputable def B__law_some_by : ST := (vSeq (vSet 3 (frO (vComp (v2 rng2 (toD (vC (.int 1))) (frD (v2 addV (toD (vFld "Table" "hands" (vVar 1))) (toD (vC (.int 1)))))) (gN 5) (toT (vCmp .notin (vVarD 5) (vVarD 2))) (unO (vVar 5)) [5])))
  (vSeq (vSet 4 (v2 modI (toD (v2 divI (vVarD 0) (toD (vC (.int 3))))) (toD (v1 lenP (vVarD 3)))))
  (vSeq (vIfS (toT (vCmp .eq (toD (v2 modI (vVarD 0) (toD (vC (.int 3))))) (toD (vC (.int 0))))) (vRet (vLst vNil)) vSkip)
  (vSeq (vIfS (vOrT (toT (vCmp .eq (toD (v2 modI (vVarD 0) (toD (vC (.int 3))))) (toD (vC (.int 1))))) (vOrT (toT (vCmp .eq (toD (vFld "Table" "few" (vVar 1))) (toD (vC (.int 1))))) (toT (vCmp .eq (toD (v1 lenP (vVarD 3))) (toD (vC (.int 1))))))) (vRet (vLst (vCons (toD (v2 ixP (vVarD 3) (vVarD 4))) vNil))) vSkip)
  (vRet (v1 sortP (frD (vLst (vCons (toD (v2 ixP (vVarD 3) (vVarD 4))) (vCons (toD (v2 ixP (vVarD 3) (toD (v2 modI (frD (v2 addV (frD (v2 addV (vVarD 4) (toD (vC (.int 1))))) (toD (v2 modI (toD (v2 divI (vVarD 0) (toD (vC (.int 50))))) (toD (v2 subI (toD (v1 lenP (vVarD 3))) (toD (vC (.int 1))))))))) (toD (v1 lenP (vVarD 3))))))) vNil))))))))))
noncomputable def S__law_some_by : Fn := mkFn 3 B__law_some_by

/-- _law_pair_by -/
noncomputable def B__law_pair_by : ST := (vSeq (vSet 3 (v2 modI (frD (vCall S__law_cell_at (aC (vVar 0) (aC (vC (.int 1)) aN)))) (toD (vC (.int 4)))))
  (vSeq (vSet 4 (frO (v2 addV (toD (vC (.int 1))) (toD (v2 modI (toD (v2 divI (frD (vCall S__law_cell_at (aC (vVar 0) (aC (vC (.int 1)) aN)))) (toD (vC (.int 4))))) (toD (vFld "Table" "hands" (vVar 1))))))))
  (vSeq (vSet 5 (frO (v2 addV (toD (vC (.int 1))) (toD (v2 modI (toD (v2 divI (frD (vCall S__law_cell_at (aC (vVar 0) (aC (vC (.int 1)) aN)))) (toD (vC (.int 32))))) (toD (vFld "Table" "hands" (vVar 1))))))))
  (vSeq (vSet 6 (frO (vCall S__law_steps_by (aC (vVar 0) (aC (vC (.int 10)) (aC (vVar 2) (aC (vVar 1) aN)))))))
  (vSeq (vSet 7 (frO (vLst vNil)))
  (vSeq (vIfS (toT (vCmp .isin (vVarD 3) (toD (vTup (vCons (toD (vC (.int 1))) (vCons (toD (vC (.int 2))) vNil)))))) (vSeq (vSet 8 (frO (vLst (vCons (toD (vTup (vCons (toD (vC (.str "in"))) (vCons (toD (vVar 4)) vNil)))) (vCons (toD (vTup (vCons (toD (vC (.str "in"))) (vCons (toD (vVar 5)) vNil)))) (vCons (toD (vTup (vCons (toD (v2 ixP (frD (vLst (vCons (toD (vC (.str "sum"))) (vCons (toD (vC (.str "mul"))) vNil)))) (toD (v2 subI (vVarD 3) (toD (vC (.int 1))))))) (vCons (toD (vC (.int 0))) (vCons (toD (vC (.int 1))) vNil))))) (vCons (toD (vTup (vCons (toD (vC (.str "open"))) (vCons (toD (vC (.int 2))) vNil)))) vNil)))))))
  (vSeq (vSet 6 (frO (v2 addV (vVarD 8) (frD (vComp (v1 rng1 (vVarD 2)) (gN 18) vYes (vCall S__law_step_by (aC (frO (vCall S__law_cell_at (aC (vVar 0) (aC (frO (v2 addV (toD (vC (.int 10))) (vVarD 18))) aN)))) (aC (frO (v2 addV (vVarD 18) (toD (vC (.int 4))))) (aC (vVar 1) aN)))) [18])))))
  (vSeq (vSet 6 (frO (v2 addV (vVarD 8) (frD (vCall S__law_quiet (aC (frO (vSl (vVarD 6) (vPart (toD (vC (.int 4)))) vNoPart)) aN))))))
  (vSet 7 (frO (vLst (vCons (toD (vVar 4)) (vCons (toD (vVar 5)) vNil)))))))) vSkip)
  (vSeq (vIfS (toT (vCmp .eq (vVarD 3) (toD (vC (.int 0))))) (vSet 6 (frO (vCall S__law_quiet (aC (vVar 6) aN)))) vSkip)
  (vSeq (vSet 9 (frO (vCall S__law_some_by (aC (frO (vCall S__law_cell_at (aC (vVar 0) (aC (vC (.int 2)) aN)))) (aC (vVar 1) (aC (vVar 7) aN))))))
  (vSeq (vSet 10 (frO (vCall S__law_inputs_by (aC (frO (vCall S__law_cell_at (aC (vVar 0) (aC (vC (.int 3)) aN)))) (aC (vVar 6) (aC (vVar 1) aN))))))
  (vSeq (vSetO 11 (vCall S__law_inputs_by (aC (frO (vCall S__law_cell_at (aC (vVar 0) (aC (vC (.int 4)) aN)))) (aC (vVar 6) (aC (vVar 1) aN)))))
  (vSeq (vFor (vItL (toD (vVar 9))) (gN 12)
  (vSetI (plN 11) (toD (v2 subI (vVarD 12) (toD (vC (.int 1))))) (v1 listP (toD (v2 ixP (vVarD 10) (toD (v2 subI (vVarD 12) (toD (vC (.int 1))))))))))
  (vSeq (vIfS (toT (vCmp .ne (vVarD 7) (frD (vLst vNil)))) (vSeq (vSet 13 (frO (v1 intP (toD (vCmp .eq (vVarD 4) (vVarD 5))))))
  (vSeq (vSet 14 (frO (v2 addV (toD (vC (.int 1))) (toD (v2 modI (frD (vCall S__law_cell_at (aC (vVar 0) (aC (vC (.int 5)) aN)))) (toD (v2 subI (toD (vFld "Table" "prime" (vVar 1))) (toD (vC (.int 1))))))))))
  (vSeq (vSet 15 (vC (.int 1)))
  (vSeq (whileL (toT (vCmp .ne (toD (v2 modI (frD (v2 mulV (vVarD 14) (vVarD 15))) (toD (vFld "Table" "prime" (vVar 1))))) (toD (vC (.int 1)))))
  (vSet 15 (frO (v2 addV (vVarD 15) (toD (vC (.int 1)))))) 40)
  (vSeq (vPar 16 17 (aC (v2 ixP (toD (v2 ixP (vVarD 10) (toD (v2 subI (vVarD 4) (toD (vC (.int 1))))))) (toD (vC (.int 0)))) (aC (v2 ixP (toD (v2 ixP (vVarD 10) (toD (v2 subI (vVarD 5) (toD (vC (.int 1))))))) (vVarD 13)) aN)))
  (vIfS (toT (vCmp .eq (vVarD 3) (toD (vC (.int 1))))) (vSeq (vSetI (plX (plN 11) (toD (v2 subI (vVarD 4) (toD (vC (.int 1)))))) (toD (vC (.int 0))) (unO (v2 modI (frD (v2 addV (vVarD 16) (vVarD 14))) (toD (vFld "Table" "prime" (vVar 1))))))
  (vSetI (plX (plN 11) (toD (v2 subI (vVarD 5) (toD (vC (.int 1)))))) (vVarD 13) (unO (v2 modI (toD (v2 subI (vVarD 17) (vVarD 14))) (toD (vFld "Table" "prime" (vVar 1))))))) (vSeq (vSetI (plX (plN 11) (toD (v2 subI (vVarD 4) (toD (vC (.int 1)))))) (toD (vC (.int 0))) (unO (v2 modI (frD (v2 mulV (vVarD 16) (vVarD 14))) (toD (vFld "Table" "prime" (vVar 1))))))
  (vSetI (plX (plN 11) (toD (v2 subI (vVarD 5) (toD (vC (.int 1)))))) (vVarD 13) (unO (v2 modI (frD (v2 mulV (vVarD 17) (vVarD 15))) (toD (vFld "Table" "prime" (vVar 1))))))))))))) vSkip)
  (vSeq (vFrz 11 [])
  (vRetP (vTup (vCons (toD (vVar 6)) (vCons (toD (vVar 10)) (vCons (toD (vVar 11)) (vCons (toD (vVar 9)) vNil)))))))))))))))))))
noncomputable def S__law_pair_by : Fn := mkFn 16 B__law_pair_by

/-- _law_agree -/
noncomputable def B__law_agree : ST := (vSeq (vFor (vItL (toD (vVar 4))) (gN 5)
  (vIfS (toT (vCmp .ne (frD (vSl (toD (v2 ixP (vVarD 2) (toD (v2 subI (vVarD 5) (toD (vC (.int 1))))))) vNoPart (vPart (frD (vCall S__law_used (aC (vVar 1) (aC (vVar 5) aN))))))) (frD (vSl (toD (v2 ixP (vVarD 3) (toD (v2 subI (vVarD 5) (toD (vC (.int 1))))))) vNoPart (vPart (frD (vCall S__law_used (aC (vVar 1) (aC (vVar 5) aN))))))))) (vRetP (vC (.bool false))) vSkip))
  (vSeq (vSet 6 (frO (vCall S__law_plain (aC (vVar 0) (aC (vVar 1) (aC (vVar 2) aN))))))
  (vSeq (vSet 7 (frO (vCall S__law_plain (aC (vVar 0) (aC (vVar 1) (aC (vVar 3) aN))))))
  (vRetP (v1 allP (frD (vComp (vItEnum (vVarD 1)) (gT 2 (gsC (gN 8) (gsC (gN 9) gsN))) vYes (unO (vOr (vCmp .ne (toD (v2 ixP (vVarD 9) (toD (vC (.int 0))))) (toD (vC (.str "open")))) (vCmp .eq (toD (v2 ixP (vVarD 6) (vVarD 8))) (toD (v2 ixP (vVarD 7) (vVarD 8)))))) [8, 9])))))))
noncomputable def S__law_agree : Fn := mkFn 5 B__law_agree

/-- _law_chance_by -/
noncomputable def B__law_chance_by : ST := (vRet (vComp (v1 rng1 (frD (vCall S__law_needs (aC (vVar 1) (aC (vVar 2) aN))))) (gN 3) vYes (vCall S__law_mix (aC (vVar 0) (aC (frO (v2 addV (toD (vC (.int 200))) (vVarD 3))) (aC (vFld "Table" "prime" (vVar 2)) aN)))) [3]))
noncomputable def S__law_chance_by : Fn := mkFn 1 B__law_chance_by

/-- _law_on_row -/
noncomputable def B__law_on_row : ST := (vSeq (vIfS (vOrT (vNotT (toT (v1 (fun y => iB (isI .list y)) (vVarD 1)))) (vOrT (toT (vCmp .ne (toD (v1 lenP (vVarD 1))) (toD (vFld "Table" "hands" (vVar 0))))) (vNotT (toT (v1 allP (frD (vComp (vItL (vVarD 1)) (gN 7) vYes (vCall S__law_whole (aC (vVar 7) aN)) [7]))))))) (vRetP (vC (.bool false))) vSkip)
  (vSeq (vSet 4 (frO (vCall S__law_choices (aC (vFld "Table" "hands" (vVar 0)) (aC (frO (v2 addV (toD (vFld "Table" "few" (vVar 0))) (toD (vC (.int 1))))) aN)))))
  (vSeq (vSet 5 (frO (vComp (vItL (toD (v2 ixP (vVarD 4) (toD (v2 modI (vVarD 3) (toD (v1 lenP (vVarD 4)))))))) (gN 8) vYes (unO (vTup (vCons (toD (frO (v2 addV (vVarD 8) (toD (vC (.int 1)))))) (vCons (toD (v2 ixP (vVarD 1) (vVarD 8))) vNil)))) [8])))
  (vSeq (vFor (v2 rng2 (toD (vC (.int 1))) (frD (v2 addV (toD (vFld "Table" "hands" (vVar 0))) (toD (vC (.int 1)))))) (gN 6)
  (vIfS (toT (vCmp .ne (frD (vCall S__law_at (aC (vFld "Table" "prime" (vVar 0)) (aC (vVar 5) (aC (vVar 6) aN))))) (toD (v2 ixP (vVarD 1) (toD (v2 subI (vVarD 6) (toD (vC (.int 1))))))))) (vRetP (vC (.bool false))) vSkip))
  (vRetP (vCmp .eq (frD (vCall S__law_at (aC (vFld "Table" "prime" (vVar 0)) (aC (vVar 5) (aC (vC (.int 0)) aN))))) (vVarD 2)))))))
noncomputable def S__law_on_row : Fn := mkFn 5 B__law_on_row

/-- law -/
noncomputable def B_law_v12 : ST := (vSeq (vSet 1 (frO (vCall S__law_table_by (aC (frO (vCall S__law_cell_at (aC (vVar 0) (aC (vC (.int 0)) aN)))) aN))))
  (vSeq (vSet 2 (frO (vCall S__law_steps_by (aC (vVar 0) (aC (vC (.int 5)) (aC (frO (v2 addV (toD (vC (.int 1))) (toD (v2 modI (frD (vCall S__law_cell_at (aC (vVar 0) (aC (vC (.int 1)) aN)))) (toD (vC (.int 12))))))) (aC (vVar 1) aN)))))))
  (vSeq (vSet 3 (frO (vCall S__law_inputs_by (aC (frO (vCall S__law_cell_at (aC (vVar 0) (aC (vC (.int 2)) aN)))) (aC (vVar 2) (aC (vVar 1) aN))))))
  (vSeq (vSet 4 (frO (vCall S_run (aC (vVar 1) (aC (vVar 2) (aC (vVar 3) (aC (frO (vCall S__law_chance_by (aC (frO (vCall S__law_cell_at (aC (vVar 0) (aC (vC (.int 3)) aN)))) (aC (vVar 2) (aC (vVar 1) aN))))) aN)))))))
  (vSeq (vSet 5 (frO (vCall S__law_plain (aC (vFld "Table" "prime" (vVar 1)) (aC (vVar 2) (aC (vVar 3) aN))))))
  (vSeq (vIfS (toT (vCmp .ne (toD (v1 lenP (toD (v2 ixP (vVarD 4) (toD (vC (.int 0))))))) (toD (v1 lenP (vVarD 2))))) (vRetP (vC (.bool false))) vSkip)
  (vSeq (vFor (v1 rng1 (toD (v1 lenP (vVarD 2)))) (gN 6)
  (vIfS (vNotT (toT (frO (vCall S__law_on_row (aC (vVar 1) (aC (v2 ixP (toD (v2 ixP (vVarD 4) (toD (vC (.int 0))))) (vVarD 6)) (aC (v2 ixP (vVarD 5) (vVarD 6)) (aC (frO (v2 addV (frD (vCall S__law_cell_at (aC (vVar 0) (aC (vC (.int 4)) aN)))) (vVarD 6))) aN)))))))) (vRetP (vC (.bool false))) vSkip))
  (vRetP (vCmp .eq (toD (v2 ixP (vVarD 4) (toD (vC (.int 2))))) (frD (vComp (vItEnum (vVarD 2)) (gT 2 (gsC (gN 6) (gsC (gN 7) gsN))) (toT (vCmp .eq (toD (v2 ixP (vVarD 7) (toD (vC (.int 0))))) (toD (vC (.str "open"))))) (unO (vTup (vCons (toD (vVar 6)) (vCons (toD (v2 ixP (vVarD 5) (vVarD 6))) vNil)))) [6, 7])))))))))))
noncomputable def S_law_v12 : Fn := mkFn 7 B_law_v12

/-- check_hands -/
noncomputable def B_check_hands : ST := (vSeq (vSet 2 (vC (.int 0)))
  (vFor (vItL (toD (vVar 1))) (gN 3)
  (vSeq (vIfS (vNotT (toT (vChain .lt .le (vVarD 2) (vVarD 3) (toD (vFld "Table" "hands" (vVar 0)))))) (vRaise "BadHands") vSkip)
  (vSet 2 (vVar 3)))))
noncomputable def S_check_hands : Fn := mkFn 2 B_check_hands

/-- dealers -/
noncomputable def B_dealers : ST := (vSeq (vIfS (toT (vCmp .eq (toD (v2 ixP (vVarD 1) (toD (vC (.int 0))))) (toD (vC (.str "in"))))) (vRet (vLst (vCons (toD (v2 ixP (vVarD 1) (toD (vC (.int 1))))) vNil))) vSkip)
  (vSeq (vIfS (toT (vCmp .isin (toD (v2 ixP (vVarD 1) (toD (vC (.int 0))))) (toD (vTup (vCons (toD (vC (.str "mul"))) (vCons (toD (vC (.str "anew"))) vNil)))))) (vRet (v2 lrg2 (toD (vC (.int 1))) (frD (v2 addV (toD (vFld "Table" "hands" (vVar 0))) (toD (vC (.int 1))))))) vSkip)
  (vRet (vLst vNil))))
noncomputable def S_dealers : Fn := mkFn 0 B_dealers

/-- inputs_used -/
noncomputable def B_inputs_used : ST := (vRet (vComp (vItL (vVarD 2)) (gN 3) vYes (v1 listP (frD (vSl (toD (v2 ixP (vVarD 1) (toD (v2 subI (vVarD 3) (toD (vC (.int 1))))))) vNoPart (vPart (frD (vCall S_used (aC (vVar 0) (aC (vVar 3) aN)))))))) [3]))
noncomputable def S_inputs_used : Fn := mkFn 1 B_inputs_used

/-- seen -/
noncomputable def B_seen : ST := (vSeq (vDrop (vCall S_check_all (aC (vVar 0) (aC (vVar 1) (aC (vVar 2) (aC (vVar 3) aN))))))
  (vSeq (vDrop (vCall S_check_hands (aC (vVar 0) (aC (vVar 4) aN))))
  (vSeq (vSet 5 (frO (vLst vNil)))
  (vSeq (vSet 6 (vC (.int 0)))
  (vSeq (vFor (vItL (toD (vVar 1))) (gN 7)
  (vFor (vItL (toD (frO (vCall S_dealers (aC (vVar 0) (aC (vVar 7) aN)))))) (gN 8)
  (vSeq (vIfS (toT (vCmp .isin (vVarD 8) (vVarD 4))) (vSet 5 (frO (v2 addV (vVarD 5) (frD (v1 listP (frD (vSl (vVarD 3) (vPart (vVarD 6)) (vPart (frD (v2 addV (vVarD 6) (toD (vFld "Table" "few" (vVar 0))))))))))))) vSkip)
  (vSet 6 (frO (v2 addV (vVarD 6) (toD (vFld "Table" "few" (vVar 0)))))))))
  (vSeq (vSet 9 (frO (vComp (vItL (toD (v2 ixP (frD (vCall S_run (aC (vVar 0) (aC (vVar 1) (aC (vVar 2) (aC (vVar 3) aN)))))) (toD (vC (.int 1)))))) (gN 10) (toT (vCmp .isin (toD (v2 ixP (vVarD 10) (toD (vC (.int 2))))) (vVarD 4))) (unO (vVar 10)) [10])))
  (vRetP (vTup (vCons (toD (frO (vCall S_inputs_used (aC (vVar 1) (aC (vVar 2) (aC (vVar 4) aN)))))) (vCons (toD (vVar 5)) (vCons (toD (vVar 9)) vNil)))))))))))
noncomputable def S_seen : Fn := mkFn 6 B_seen

/-- _law_worse -/
noncomputable def B__law_worse : ST := (vSeq (vIfS (vOrT (toT (vCmp .eq (toD (v2 modI (vVarD 1) (toD (vC (.int 4))))) (toD (vC (.int 0))))) (toT (vCmp .eq (toD (v1 lenP (vVarD 0))) (toD (vC (.int 0)))))) (vRet (v2 addV (vVarD 0) (frD (vLst (vCons (toD (v2 modI (toD (v2 divI (vVarD 1) (toD (vC (.int 4))))) (toD (vFld "Table" "prime" (vVar 2))))) vNil))))) vSkip)
  (vSeq (vIfS (toT (vCmp .eq (toD (v2 modI (vVarD 1) (toD (vC (.int 4))))) (toD (vC (.int 1))))) (vRet (vSl (vVarD 0) (vPart (toD (vC (.int 1)))) vNoPart)) vSkip)
  (vSeq (vSet 3 (v2 modI (toD (v2 divI (vVarD 1) (toD (vC (.int 4))))) (toD (v1 lenP (vVarD 0)))))
  (vRet (v2 addV (frD (v2 addV (frD (vSl (vVarD 0) vNoPart (vPart (vVarD 3)))) (frD (vLst (vCons (toD (v2 ixP (frD (vLst (vCons (toD (v1 negI (toD (vC (.int 1))))) (vCons (toD (vFld "Table" "prime" (vVar 2))) (vCons (toD (frO (v2 addV (toD (vFld "Table" "prime" (vVar 2))) (toD (vC (.int 9)))))) vNil))))) (toD (v2 modI (toD (v2 divI (vVarD 1) (toD (vC (.int 90))))) (toD (vC (.int 3))))))) vNil))))) (frD (vSl (vVarD 0) (vPart (frD (v2 addV (vVarD 3) (toD (vC (.int 1)))))) vNoPart)))))))
noncomputable def S__law_worse : Fn := mkFn 1 B__law_worse

/-- _law_own -/
noncomputable def B__law_own : ST := (vSeq (vSet 4 (frO (vLst vNil)))
  (vSeq (vSet 5 (vC (.int 0)))
  (vSeq (vFor (vItL (toD (vVar 1))) (gN 6)
  (vSeq (vSet 7 (frO (vLst vNil)))
  (vSeq (vIfS (toT (vCmp .eq (toD (v2 ixP (vVarD 6) (toD (vC (.int 0))))) (toD (vC (.str "in"))))) (vSet 7 (frO (vLst (vCons (toD (v2 ixP (vVarD 6) (toD (vC (.int 1))))) vNil)))) vSkip)
  (vSeq (vIfS (toT (vCmp .isin (toD (v2 ixP (vVarD 6) (toD (vC (.int 0))))) (toD (vTup (vCons (toD (vC (.str "mul"))) (vCons (toD (vC (.str "anew"))) vNil)))))) (vSet 7 (frO (v2 lrg2 (toD (vC (.int 1))) (frD (v2 addV (toD (vFld "Table" "hands" (vVar 0))) (toD (vC (.int 1)))))))) vSkip)
  (vFor (vItL (toD (vVar 7))) (gN 8)
  (vSeq (vIfS (toT (vCmp .isin (vVarD 8) (vVarD 3))) (vSet 4 (frO (v2 addV (vVarD 4) (frD (vSl (vVarD 2) (vPart (vVarD 5)) (vPart (frD (v2 addV (vVarD 5) (toD (vFld "Table" "few" (vVar 0))))))))))) vSkip)
  (vSet 5 (frO (v2 addV (vVarD 5) (toD (vFld "Table" "few" (vVar 0))))))))))))
  (vRetP (vVar 4)))))
noncomputable def S__law_own : Fn := mkFn 5 B__law_own

/-- veil -/
noncomputable def B_veil : ST := (vSeq (vDrop (vCall S_check_hands (aC (vVar 0) (aC (vVar 1) aN))))
  (vSeq (vIfS (toT (vCmp .gt (toD (v1 lenP (vVarD 1))) (toD (vFld "Table" "few" (vVar 0))))) (vRaise "NoVeil") vSkip)
  (vSeq (vSet 2 (frO (vLst (vCons (toD (vC (.int 1))) vNil))))
  (vSeq (vFor (vItL (toD (vVar 1))) (gN 3)
  (vSet 2 (frO (vCall S_product (aC (vVar 0) (aC (vVar 2) (aC (frO (vLst (vCons (toD (vC (.int 1))) (vCons (toD (v2 modI (toD (v1 negI (frD (vCall S_back (aC (vVar 0) (aC (vVar 3) aN)))))) (toD (vFld "Table" "prime" (vVar 0))))) vNil)))) aN)))))))
  (vRet (v2 addV (vVarD 2) (frD (v2 mulV (frD (vLst (vCons (toD (vC (.int 0))) vNil))) (toD (v2 subI (frD (v2 addV (toD (vFld "Table" "few" (vVar 0))) (toD (vC (.int 1))))) (toD (v1 lenP (vVarD 2)))))))))))))
noncomputable def S_veil : Fn := mkFn 2 B_veil

/-- agree -/
noncomputable def B_agree : ST := (vSeq (vIfS (toT (vCmp .ne (frD (vCall S_inputs_used (aC (vVar 1) (aC (vVar 2) (aC (vVar 4) aN))))) (frD (vCall S_inputs_used (aC (vVar 1) (aC (vVar 3) (aC (vVar 4) aN))))))) (vRetP (vC (.bool false))) vSkip)
  (vSeq (vSet 5 (frO (vCall S_plain (aC (vVar 0) (aC (vVar 1) (aC (vVar 2) aN))))))
  (vSeq (vSet 6 (frO (vCall S_plain (aC (vVar 0) (aC (vVar 1) (aC (vVar 3) aN))))))
  (vRetP (v1 allP (frD (vComp (vItEnum (vVarD 1)) (gT 2 (gsC (gN 7) (gsC (gN 8) gsN))) vYes (unO (vOr (vCmp .ne (toD (v2 ixP (vVarD 8) (toD (vC (.int 0))))) (toD (vC (.str "open")))) (vCmp .eq (toD (v2 ixP (vVarD 5) (vVarD 7))) (toD (v2 ixP (vVarD 6) (vVarD 7)))))) [7, 8])))))))
noncomputable def S_agree : Fn := mkFn 4 B_agree

/-- numbers_dealt -/
noncomputable def B_numbers_dealt : ST := (vSeq (vIfS (toT (vCmp .eq (toD (v2 ixP (vVarD 1) (toD (vC (.int 0))))) (toD (vC (.str "in"))))) (vRet (vLst (vCons (toD (plP (plX (plX (plF "Desk" "left" (plN 0)) (toD (v2 subI (toD (v2 ixP (vVarD 1) (toD (vC (.int 1))))) (toD (vC (.int 1)))))) (toD (vC (.int 0)))))) vNil))) vSkip)
  (vSeq (vIfS (toT (vCmp .eq (toD (v2 ixP (vVarD 1) (toD (vC (.int 0))))) (toD (vC (.str "mul"))))) (vRet (vMethP "Desk" "local" S_Desk_local 0 (pF (vVar 1) pN))) vSkip)
  (vRet (v2 mulV (frD (vLst (vCons (toD (vC (.int 0))) vNil))) (toD (vFld "Table" "hands" (plP (plF "Desk" "table" (plN 0)))))))))
noncomputable def S_numbers_dealt : Fn := mkFn 0 B_numbers_dealt

/-- exchanged -/
noncomputable def B_exchanged : ST := (vSeq (vDrop (vCall S_check_all (aC (vVar 0) (aC (vVar 1) (aC (vVar 2) (aC (vVar 4) aN))))))
  (vSeq (vDrop (vCall S_check_inputs (aC (vVar 0) (aC (vVar 1) (aC (vVar 3) aN)))))
  (vSeq (vSet 6 (frO (vCall S_veil (aC (vVar 0) (aC (vVar 5) aN)))))
  (vSeq (vIfS (vNotT (toT (frO (vCall S_agree (aC (vVar 0) (aC (vVar 1) (aC (vVar 2) (aC (vVar 3) (aC (vVar 5) aN))))))))) (vRaise "NoVeil") vSkip)
  (vSeq (vSetO 7 (vMake "Desk" S_Desk___init__ (aC (vVar 0) (aC (vVar 2) (aC (vVar 4) aN)))))
  (vSeq (vSetO 8 (vMake "Desk" S_Desk___init__ (aC (vVar 0) (aC (vVar 3) (aC (frO (vLst vNil)) aN)))))
  (vSeq (vSet 9 (frO (vLst vNil)))
  (vSeq (vFor (vItL (toD (vVar 1))) (gN 10)
  (vSeq (vSetO 11 (v1 listP (frD (vSl (toD (plP (plF "Desk" "chance" (plN 7)))) vNoPart (vPart (frD (vCall S_step_needs (aC (vVar 0) (aC (vVar 10) aN)))))))))
  (vSeq (vSet 12 (frO (vCall S_dealers (aC (vVar 0) (aC (vVar 10) aN)))))
  (vSeq (vIfS (toT (vCmp .gt (toD (v1 lenP (vVarD 12))) (toD (vC (.int 0))))) (vSeq (vSet 13 (frO (vComp (vItZip (frD (vCallP S_numbers_dealt (pS 7 (pF (vVar 10) pN)))) (frD (vCallP S_numbers_dealt (pS 8 (pF (vVar 10) pN))))) (gT 2 (gsC (gN 18) (gsC (gN 19) gsN))) vYes (unO (v2 subI (vVarD 19) (vVarD 18))) [18, 19])))
  (vFor (vItEnum (toD (vVar 12))) (gT 2 (gsC (gN 14) (gsC (gN 15) gsN)))
  (vIfS (toT (vCmp .notin (vVarD 15) (vVarD 5))) (vFor (v1 rng1 (toD (vFld "Table" "few" (vVar 0)))) (gN 16)
  (vSeq (vSet 17 (frO (v2 addV (frD (v2 mulV (vVarD 14) (toD (vFld "Table" "few" (vVar 0))))) (vVarD 16))))
  (vSetI (plN 11) (vVarD 17) (unO (v2 modI (frD (v2 addV (toD (plP (plX (plN 11) (vVarD 17)))) (frD (v2 mulV (toD (v2 ixP (vVarD 6) (frD (v2 addV (vVarD 16) (toD (vC (.int 1))))))) (toD (v2 ixP (vVarD 13) (vVarD 14))))))) (toD (vFld "Table" "prime" (vVar 0)))))))) vSkip))) vSkip)
  (vSeq (vFrz 11 [])
  (vSeq (vSet 9 (frO (v2 addV (vVarD 9) (vVarD 11))))
  (vSeq (vSetF "Desk" 8 "chance" (unO (vVar 11)))
  (vSeq (vEx (vMethX "Desk" "step" S_Desk_step 7 (xP (pF (vVar 10) pN))))
  (vEx (vMethX "Desk" "step" S_Desk_step 8 (xP (pF (vVar 10) pN))))))))))))
  (vRetP (vVar 9))))))))))
noncomputable def S_exchanged : Fn := mkFn 14 B_exchanged

/-- _law_pair_by -/
noncomputable def B__law_pair_by_v1 : ST := (vSeq (vSet 3 (v2 modI (frD (vCall S__law_cell_at (aC (vVar 0) (aC (vC (.int 1)) aN)))) (toD (vC (.int 4)))))
  (vSeq (vSet 4 (frO (v2 addV (toD (vC (.int 1))) (toD (v2 modI (toD (v2 divI (frD (vCall S__law_cell_at (aC (vVar 0) (aC (vC (.int 1)) aN)))) (toD (vC (.int 4))))) (toD (vFld "Table" "hands" (vVar 1))))))))
  (vSeq (vSet 5 (frO (v2 addV (toD (vC (.int 1))) (toD (v2 modI (toD (v2 divI (frD (vCall S__law_cell_at (aC (vVar 0) (aC (vC (.int 1)) aN)))) (toD (vC (.int 32))))) (toD (vFld "Table" "hands" (vVar 1))))))))
  (vSeq (vSet 6 (frO (vCall S__law_steps_by (aC (vVar 0) (aC (vC (.int 10)) (aC (vVar 2) (aC (vVar 1) aN)))))))
  (vSeq (vSet 7 (frO (vLst vNil)))
  (vSeq (vIfS (toT (vCmp .isin (vVarD 3) (toD (vTup (vCons (toD (vC (.int 1))) (vCons (toD (vC (.int 2))) vNil)))))) (vSeq (vSet 8 (frO (vLst (vCons (toD (vTup (vCons (toD (vC (.str "in"))) (vCons (toD (vVar 4)) vNil)))) (vCons (toD (vTup (vCons (toD (vC (.str "in"))) (vCons (toD (vVar 5)) vNil)))) (vCons (toD (vTup (vCons (toD (v2 ixP (frD (vLst (vCons (toD (vC (.str "sum"))) (vCons (toD (vC (.str "mul"))) vNil)))) (toD (v2 subI (vVarD 3) (toD (vC (.int 1))))))) (vCons (toD (vC (.int 0))) (vCons (toD (vC (.int 1))) vNil))))) (vCons (toD (vTup (vCons (toD (vC (.str "open"))) (vCons (toD (vC (.int 2))) vNil)))) vNil)))))))
  (vSeq (vSet 6 (frO (v2 addV (vVarD 8) (frD (vComp (v1 rng1 (vVarD 2)) (gN 19) vYes (vCall S__law_step_by (aC (frO (vCall S__law_cell_at (aC (vVar 0) (aC (frO (v2 addV (toD (vC (.int 10))) (vVarD 19))) aN)))) (aC (frO (v2 addV (vVarD 19) (toD (vC (.int 4))))) (aC (vVar 1) aN)))) [19])))))
  (vSeq (vSet 6 (frO (v2 addV (vVarD 8) (frD (vCall S__law_quiet (aC (frO (vSl (vVarD 6) (vPart (toD (vC (.int 4)))) vNoPart)) aN))))))
  (vSet 7 (frO (vLst (vCons (toD (vVar 4)) (vCons (toD (vVar 5)) vNil)))))))) vSkip)
  (vSeq (vIfS (toT (vCmp .eq (vVarD 3) (toD (vC (.int 0))))) (vSet 6 (frO (vCall S__law_quiet (aC (vVar 6) aN)))) vSkip)
  (vSeq (vSet 9 (frO (vCall S__law_some_by (aC (frO (vCall S__law_cell_at (aC (vVar 0) (aC (vC (.int 2)) aN)))) (aC (vVar 1) (aC (vVar 7) aN))))))
  (vSeq (vSet 10 (frO (vCall S__law_inputs_by (aC (frO (vCall S__law_cell_at (aC (vVar 0) (aC (vC (.int 3)) aN)))) (aC (vVar 6) (aC (vVar 1) aN))))))
  (vSeq (vSetO 11 (vCall S__law_inputs_by (aC (frO (vCall S__law_cell_at (aC (vVar 0) (aC (vC (.int 4)) aN)))) (aC (vVar 6) (aC (vVar 1) aN)))))
  (vSeq (vFor (vItL (toD (vVar 9))) (gN 12)
  (vSeq (vSet 13 (frO (vCall S__law_used (aC (vVar 6) (aC (vVar 12) aN)))))
  (vSetI (plN 11) (toD (v2 subI (vVarD 12) (toD (vC (.int 1))))) (v2 addV (frD (vSl (toD (v2 ixP (vVarD 10) (toD (v2 subI (vVarD 12) (toD (vC (.int 1))))))) vNoPart (vPart (vVarD 13)))) (frD (vSl (plD (plX (plN 11) (toD (v2 subI (vVarD 12) (toD (vC (.int 1))))))) (vPart (vVarD 13)) vNoPart))))))
  (vSeq (vIfS (toT (vCmp .ne (vVarD 7) (frD (vLst vNil)))) (vSeq (vSet 14 (frO (v1 intP (toD (vCmp .eq (vVarD 4) (vVarD 5))))))
  (vSeq (vSet 15 (frO (v2 addV (toD (vC (.int 1))) (toD (v2 modI (frD (vCall S__law_cell_at (aC (vVar 0) (aC (vC (.int 5)) aN)))) (toD (v2 subI (toD (vFld "Table" "prime" (vVar 1))) (toD (vC (.int 1))))))))))
  (vSeq (vSet 16 (vC (.int 1)))
  (vSeq (whileL (toT (vCmp .ne (toD (v2 modI (frD (v2 mulV (vVarD 15) (vVarD 16))) (toD (vFld "Table" "prime" (vVar 1))))) (toD (vC (.int 1)))))
  (vSet 16 (frO (v2 addV (vVarD 16) (toD (vC (.int 1)))))) 40)
  (vSeq (vPar 17 18 (aC (v2 ixP (toD (v2 ixP (vVarD 10) (toD (v2 subI (vVarD 4) (toD (vC (.int 1))))))) (toD (vC (.int 0)))) (aC (v2 ixP (toD (v2 ixP (vVarD 10) (toD (v2 subI (vVarD 5) (toD (vC (.int 1))))))) (vVarD 14)) aN)))
  (vIfS (toT (vCmp .eq (vVarD 3) (toD (vC (.int 1))))) (vSeq (vSetI (plX (plN 11) (toD (v2 subI (vVarD 4) (toD (vC (.int 1)))))) (toD (vC (.int 0))) (unO (v2 modI (frD (v2 addV (vVarD 17) (vVarD 15))) (toD (vFld "Table" "prime" (vVar 1))))))
  (vSetI (plX (plN 11) (toD (v2 subI (vVarD 5) (toD (vC (.int 1)))))) (vVarD 14) (unO (v2 modI (toD (v2 subI (vVarD 18) (vVarD 15))) (toD (vFld "Table" "prime" (vVar 1))))))) (vSeq (vSetI (plX (plN 11) (toD (v2 subI (vVarD 4) (toD (vC (.int 1)))))) (toD (vC (.int 0))) (unO (v2 modI (frD (v2 mulV (vVarD 17) (vVarD 15))) (toD (vFld "Table" "prime" (vVar 1))))))
  (vSetI (plX (plN 11) (toD (v2 subI (vVarD 5) (toD (vC (.int 1)))))) (vVarD 14) (unO (v2 modI (frD (v2 mulV (vVarD 18) (vVarD 16))) (toD (vFld "Table" "prime" (vVar 1))))))))))))) vSkip)
  (vSeq (vFrz 11 [])
  (vRetP (vTup (vCons (toD (vVar 6)) (vCons (toD (vVar 10)) (vCons (toD (vVar 11)) (vCons (toD (vVar 9)) vNil)))))))))))))))))))
noncomputable def S__law_pair_by_v1 : Fn := mkFn 17 B__law_pair_by_v1

/-- _law_exchange -/
noncomputable def B__law_exchange : ST := (vTry ["VeilError", "BadTable", "Nought", "AlikePoints", "BadSteps", "BadInputs", "BadChance", "BadHands", "NoVeil"] "NoVeil" (vRet (vCall S_exchanged (aC (vVar 0) (aC (vVar 1) (aC (vVar 2) (aC (vVar 3) (aC (vVar 4) (aC (vVar 5) aN)))))))) 6 (fun c => (vRetP (fun _ => iB (subE c "VeilError")))))
noncomputable def S__law_exchange : Fn := mkFn 1 B__law_exchange

/-- law -/
noncomputable def B_law_v17 : ST := (vSeq (vSet 1 (frO (vCall S__law_table_by (aC (frO (vCall S__law_cell_at (aC (vVar 0) (aC (vC (.int 0)) aN)))) aN))))
  (vSeq (vAsg (gT 4 (gsC (gN 2) (gsC (gN 3) (gsC (gN 4) (gsC (gN 5) gsN))))) (toD (frO (vCall S__law_pair_by_v1 (aC (vVar 0) (aC (vVar 1) (aC (frO (v2 addV (toD (vC (.int 1))) (toD (v2 modI (frD (vCall S__law_cell_at (aC (vVar 0) (aC (vC (.int 6)) aN)))) (toD (vC (.int 8))))))) aN)))))))
  (vSeq (vSet 6 (frO (vCall S__law_chance_by (aC (frO (vCall S__law_cell_at (aC (vVar 0) (aC (vC (.int 7)) aN)))) (aC (vVar 2) (aC (vVar 1) aN))))))
  (vSeq (vSetO 7 (v1 listP (vVarD 6)))
  (vSeq (vIfS (toT (vCmp .gt (toD (plL (plN 7))) (toD (vC (.int 0))))) (vSeq (vSet 8 (v2 modI (frD (vCall S__law_cell_at (aC (vVar 0) (aC (vC (.int 8)) aN)))) (toD (plL (plN 7)))))
  (vSetI (plN 7) (vVarD 8) (unO (v2 modI (frD (v2 addV (frD (v2 addV (toD (plP (plX (plN 7) (vVarD 8)))) (toD (vC (.int 1))))) (toD (v2 modI (frD (vCall S__law_cell_at (aC (vVar 0) (aC (vC (.int 9)) aN)))) (toD (v2 subI (toD (vFld "Table" "prime" (vVar 1))) (toD (vC (.int 1))))))))) (toD (vFld "Table" "prime" (vVar 1))))))) vSkip)
  (vSeq (vSet 9 (frO (v1 listP (vVarD 6))))
  (vSeq (vSetO 10 (vCall S_exchanged (aC (vVar 1) (aC (vVar 2) (aC (vVar 3) (aC (vVar 3) (aC (vVar 9) (aC (vVar 5) aN))))))))
  (vSeq (vIfS (toT (vCmp .ne (vVarD 10) (vVarD 6))) (vRetP (vC (.bool false))) vSkip)
  (vSeq (vEx (vApp (plN 10) (unO (vC (.int 0)))))
  (vSeq (vIfS (toT (vCmp .ne (vVarD 9) (vVarD 6))) (vRetP (vC (.bool false))) vSkip)
  (vSeq (vIfS (vNotT (toT (frO (vCall S__law_agree (aC (vFld "Table" "prime" (vVar 1)) (aC (vVar 2) (aC (vVar 3) (aC (vVar 4) (aC (vVar 5) aN))))))))) (vRetP (vC (.bool true))) vSkip)
  (vSeq (vSet 11 (frO (vCall S_exchanged (aC (vVar 1) (aC (vVar 2) (aC (vVar 3) (aC (vVar 4) (aC (vVar 6) (aC (vVar 5) aN)))))))))
  (vSeq (vFrz 7 [])
  (vSeq (vSet 12 (frO (vCall S_exchanged (aC (vVar 1) (aC (vVar 2) (aC (vVar 3) (aC (vVar 4) (aC (vVar 7) (aC (vVar 5) aN)))))))))
  (vSeq (vIfS (toT (vCmp .ne (frD (vCall S_exchanged (aC (vVar 1) (aC (vVar 2) (aC (vVar 4) (aC (vVar 3) (aC (vVar 11) (aC (vVar 5) aN)))))))) (vVarD 6))) (vRetP (vC (.bool false))) vSkip)
  (vSeq (vIfS (toT (vCmp .ne (frD (vCall S_exchanged (aC (vVar 1) (aC (vVar 2) (aC (vVar 4) (aC (vVar 3) (aC (vVar 12) (aC (vVar 5) aN)))))))) (vVarD 7))) (vRetP (vC (.bool false))) vSkip)
  (vRetP (vCmp .eq (toD (vCmp .eq (vVarD 11) (vVarD 12))) (toD (vCmp .eq (vVarD 6) (vVarD 7)))))))))))))))))))))
noncomputable def S_law_v17 : Fn := mkFn 12 B_law_v17

/-- _law_due -/
noncomputable def B__law_due_v1 : ST := (vSeq (vIfS (toT (vCmp .eq (toD (v2 modI (vVarD 0) (toD (vC (.int 2))))) (toD (vC (.int 1))))) (vRetP (vC (.int 0))) vSkip)
  (vSeq (vIfS (toT (vCmp .eq (toD (v2 modI (toD (v2 divI (vVarD 0) (toD (vC (.int 2))))) (toD (vC (.int 2))))) (toD (vC (.int 1))))) (vRetP (vC (.int 1))) vSkip)
  (vSeq (vIfS (toT (vCmp .eq (toD (v2 modI (toD (v2 divI (vVarD 0) (toD (vC (.int 4))))) (toD (vC (.int 2))))) (toD (vC (.int 1))))) (vRetP (vC (.int 2))) vSkip)
  (vSeq (vIfS (toT (vCmp .eq (toD (v2 modI (toD (v2 divI (vVarD 0) (toD (vC (.int 8))))) (toD (vC (.int 2))))) (toD (vC (.int 1))))) (vRetP (vC (.int 1))) vSkip)
  (vSeq (vIfS (toT (vCmp .eq (toD (v2 modI (toD (v2 divI (vVarD 0) (toD (vC (.int 16))))) (toD (vC (.int 2))))) (toD (vC (.int 1))))) (vRetP (v2 ixP (frD (vLst (vCons (toD (vC (.int 3))) (vCons (toD (vC (.int 3))) (vCons (toD (vC (.int 3))) (vCons (toD (vC (.int 4))) vNil)))))) (vVarD 1))) vSkip)
  (vRetP (vC (.int 5))))))))
noncomputable def S__law_due_v1 : Fn := mkFn 0 B__law_due_v1

/-- _law_veil -/
noncomputable def B__law_veil : ST := (vSeq (vSet 2 (frO (v2 addV (frD (vLst (vCons (toD (vC (.int 1))) vNil))) (frD (v2 mulV (frD (vLst (vCons (toD (vC (.int 0))) vNil))) (toD (vFld "Table" "few" (vVar 0))))))))
  (vSeq (vFor (vItL (toD (vVar 1))) (gN 3)
  (vSeq (vSet 4 (vC (.int 1)))
  (vSeq (whileL (toT (vCmp .ne (toD (v2 modI (frD (v2 mulV (vVarD 4) (vVarD 3))) (toD (vFld "Table" "prime" (vVar 0))))) (toD (vC (.int 1)))))
  (vSet 4 (frO (v2 addV (vVarD 4) (toD (vC (.int 1)))))) 40)
  (vSet 2 (frO (vComp (vItZip (vVarD 2) (frD (v2 addV (frD (vLst (vCons (toD (vC (.int 0))) vNil))) (frD (vSl (vVarD 2) vNoPart (vPart (toD (v1 negI (toD (vC (.int 1))))))))))) (gT 2 (gsC (gN 5) (gsC (gN 6) gsN))) vYes (unO (v2 modI (toD (v2 subI (vVarD 5) (frD (v2 mulV (vVarD 6) (vVarD 4))))) (toD (vFld "Table" "prime" (vVar 0))))) [5, 6]))))))
  (vRetP (vVar 2))))
noncomputable def S__law_veil : Fn := mkFn 5 B__law_veil

/-- _law_hands -/
noncomputable def B__law_hands : ST := (vSeq (vIfS (toT (vCmp .eq (toD (v2 ixP (vVarD 1) (toD (vC (.int 0))))) (toD (vC (.str "in"))))) (vRet (vLst (vCons (toD (v2 ixP (vVarD 1) (toD (vC (.int 1))))) vNil))) vSkip)
  (vSeq (vIfS (toT (vCmp .isin (toD (v2 ixP (vVarD 1) (toD (vC (.int 0))))) (toD (vTup (vCons (toD (vC (.str "mul"))) (vCons (toD (vC (.str "anew"))) vNil)))))) (vRet (v2 lrg2 (toD (vC (.int 1))) (frD (v2 addV (toD (vFld "Table" "hands" (vVar 0))) (toD (vC (.int 1))))))) vSkip)
  (vRet (vLst vNil))))
noncomputable def S__law_hands : Fn := mkFn 0 B__law_hands

/-- _law_times -/
noncomputable def B__law_times : ST := (vSeq (vFor (v1 rng1 (vVarD 0)) (gN 3)
  (vIfS (toT (vCmp .eq (frD (vComp (vItL (frD (vSl (vVarD 1) (vPart (toD (vC (.int 1)))) vNoPart))) (gN 4) vYes (unO (v2 modI (frD (v2 mulV (vVarD 3) (vVarD 4))) (vVarD 0))) [4])) (vVarD 2))) (vRetP (vC (.bool true))) vSkip))
  (vRetP (vC (.bool false))))
noncomputable def S__law_times : Fn := mkFn 2 B__law_times

/-- law -/
noncomputable def B_law_v19 : ST := (vSeq (vSet 1 (frO (vCall S__law_table_by (aC (frO (vCall S__law_cell_at (aC (vVar 0) (aC (vC (.int 0)) aN)))) aN))))
  (vSeq (vAsg (gT 2 (gsC (gN 2) (gsC (gN 3) gsN))) (toD (vTup (vCons (toD (vFld "Table" "prime" (vVar 1))) (vCons (toD (vFld "Table" "few" (vVar 1))) vNil)))))
  (vSeq (vAsg (gT 4 (gsC (gN 4) (gsC (gN 5) (gsC (gN 6) (gsC (gN 7) gsN))))) (toD (frO (vCall S__law_pair_by_v1 (aC (vVar 0) (aC (vVar 1) (aC (frO (v2 addV (toD (vC (.int 1))) (toD (v2 modI (frD (vCall S__law_cell_at (aC (vVar 0) (aC (vC (.int 6)) aN)))) (toD (vC (.int 8))))))) aN)))))))
  (vSeq (vIfS (vNotT (toT (frO (vCall S__law_agree (aC (vVar 2) (aC (vVar 4) (aC (vVar 5) (aC (vVar 6) (aC (vVar 7) aN))))))))) (vRetP (vC (.bool true))) vSkip)
  (vSeq (vSet 8 (frO (vCall S__law_chance_by (aC (frO (vCall S__law_cell_at (aC (vVar 0) (aC (vC (.int 7)) aN)))) (aC (vVar 4) (aC (vVar 1) aN))))))
  (vSeq (vSet 9 (frO (vCall S_exchanged (aC (vVar 1) (aC (vVar 4) (aC (vVar 5) (aC (vVar 6) (aC (vVar 8) (aC (vVar 7) aN)))))))))
  (vSeq (vIfS (toT (vCmp .ne (toD (v1 lenP (vVarD 9))) (toD (v1 lenP (vVarD 8))))) (vRetP (vC (.bool false))) vSkip)
  (vSeq (vSet 10 (frO (vCall S__law_veil (aC (vVar 1) (aC (vVar 7) aN)))))
  (vSeq (vSet 11 (frO (vCall S__law_plain (aC (vVar 2) (aC (vVar 4) (aC (vVar 5) aN))))))
  (vSeq (vSet 12 (frO (vCall S__law_plain (aC (vVar 2) (aC (vVar 4) (aC (vVar 6) aN))))))
  (vSeq (vSet 13 (vC (.int 0)))
  (vSeq (vFor (vItEnum (toD (vVar 4))) (gT 2 (gsC (gN 14) (gsC (gN 15) gsN)))
  (vFor (vItL (toD (frO (vCall S__law_hands (aC (vVar 1) (aC (vVar 15) aN)))))) (gN 16)
  (vSeq (vSet 17 (frO (vComp (v1 rng1 (vVarD 3)) (gN 18) vYes (unO (v2 modI (toD (v2 subI (toD (v2 ixP (vVarD 9) (frD (v2 addV (vVarD 13) (vVarD 18))))) (toD (v2 ixP (vVarD 8) (frD (v2 addV (vVarD 13) (vVarD 18))))))) (vVarD 2))) [18])))
  (vSeq (vSet 13 (frO (v2 addV (vVarD 13) (vVarD 3))))
  (vIfS (vOrT (toT (vCmp .isin (vVarD 16) (vVarD 7))) (toT (vCmp .eq (toD (v2 ixP (vVarD 15) (toD (vC (.int 0))))) (toD (vC (.str "anew")))))) (vIfS (toT (vCmp .ne (vVarD 17) (frD (v2 mulV (frD (vLst (vCons (toD (vC (.int 0))) vNil))) (vVarD 3))))) (vRetP (vC (.bool false))) vSkip) (vIfS (toT (vCmp .eq (toD (v2 ixP (vVarD 15) (toD (vC (.int 0))))) (toD (vC (.str "in"))))) (vIfS (toT (vCmp .ne (vVarD 17) (frD (vComp (vItL (frD (vSl (vVarD 10) (vPart (toD (vC (.int 1)))) vNoPart))) (gN 19) vYes (unO (v2 modI (frD (v2 mulV (toD (v2 subI (toD (v2 ixP (vVarD 12) (vVarD 14))) (toD (v2 ixP (vVarD 11) (vVarD 14))))) (vVarD 19))) (vVarD 2))) [19])))) (vRetP (vC (.bool false))) vSkip) (vIfS (vNotT (toT (frO (vCall S__law_times (aC (vVar 2) (aC (vVar 10) (aC (vVar 17) aN))))))) (vRetP (vC (.bool false))) vSkip)))))))
  (vRetP (vC (.bool true)))))))))))))))
noncomputable def S_law_v19 : Fn := mkFn 19 B_law_v19

/-- _law_reckoning -/
noncomputable def B__law_reckoning : ST := (vSeq (vSetO 4 (vComp (v1 rng1 (vVarD 2)) (gN 5) vYes (unO (vTup (vCons (toD (vC (.str "in"))) (vCons (toD (frO (v2 addV (toD (vC (.int 2))) (toD (v2 modI (frD (vCall S__law_cell_at (aC (vVar 0) (aC (frO (v2 addV (toD (vC (.int 1))) (vVarD 5))) aN)))) (toD (v2 subI (toD (vFld "Table" "hands" (vVar 1))) (toD (vC (.int 1)))))))))) vNil)))) [5]))
  (vSeq (vIfS (toT (vVar 3)) (vSetO 4 (v2 addV (vVarD 4) (frD (vLst (vCons (toD (vTup (vCons (toD (vC (.str "sum"))) (vCons (toD (vC (.int 0))) (vCons (toD (vC (.int 1))) vNil))))) (vCons (toD (vTup (vCons (toD (vC (.str "open"))) (vCons (toD (vVar 2)) vNil)))) vNil)))))) vSkip)
  (vSeq (vFor (v1 rng1 (toD (v2 modI (frD (vCall S__law_cell_at (aC (vVar 0) (aC (vC (.int 4)) aN)))) (toD (vC (.int 3)))))) (gN 5)
  (vSeq (vSet 6 (frO (vCall S__law_mix (aC (frO (vCall S__law_cell_at (aC (vVar 0) (aC (vC (.int 5)) aN)))) (aC (vVar 5) (aC (plL (plN 4)) aN))))))
  (vSeq (vSet 7 (frO (vCall S__law_mix (aC (frO (vCall S__law_cell_at (aC (vVar 0) (aC (vC (.int 6)) aN)))) (aC (vVar 5) (aC (plL (plN 4)) aN))))))
  (vSeq (vSet 8 (frO (vLst (vCons (toD (vTup (vCons (toD (vC (.str "less"))) (vCons (toD (vVar 6)) (vCons (toD (vVar 7)) vNil))))) (vCons (toD (vTup (vCons (toD (vC (.str "by"))) (vCons (toD (vVar 6)) (vCons (toD (vC (.int 3))) vNil))))) (vCons (toD (vTup (vCons (toD (vC (.str "sum"))) (vCons (toD (vVar 6)) (vCons (toD (vVar 7)) vNil))))) vNil))))))
  (vEx (vApp (plN 4) (unO (v2 ixP (vVarD 8) (frD (vCall S__law_mix (aC (frO (vCall S__law_cell_at (aC (vVar 0) (aC (vC (.int 7)) aN)))) (aC (vVar 5) (aC (vC (.int 3)) aN)))))))))))))
  (vRetV 4))))
noncomputable def S__law_reckoning : Fn := mkFn 5 B__law_reckoning

/-- _law_counted -/
noncomputable def B__law_counted_v1 : ST := (vSeq (vSet 5 (frO (vLst (vCons (toD (frO (vLst vNil))) vNil))))
  (vSeq (vFor (v1 rng1 (vVarD 3)) (gN 6)
  (vSet 5 (frO (vCall S__law_longer (aC (vVar 5) (aC (vFld "Table" "prime" (vVar 0)) aN))))))
  (vRetP (v1 lenP (frD (vComp (vItL (vVarD 5)) (gN 7) (toT (vCmp .eq (toD (v2 ixP (frD (vCall S_seen (aC (vVar 0) (aC (vVar 1) (aC (vVar 2) (aC (vVar 7) (aC (frO (vLst (vCons (toD (vC (.int 1))) vNil))) aN))))))) (toD (vC (.int 2))))) (vVarD 4))) (unO (vVar 7)) [7]))))))
noncomputable def S__law_counted_v1 : Fn := mkFn 3 B__law_counted_v1

/-- law -/
noncomputable def B_law_v20 : ST := (vSeq (vSet 1 (frO (vMake "Table" S_Table___init__ (aC (vC (.int 5)) (aC (frO (v2 addV (toD (vC (.int 3))) (toD (v2 modI (frD (vCall S__law_cell_at (aC (vVar 0) (aC (vC (.int 0)) aN)))) (toD (vC (.int 2))))))) (aC (vC (.int 1)) aN))))))
  (vSeq (vSet 2 (frO (v2 addV (toD (vC (.int 1))) (toD (v2 modI (toD (v2 divI (frD (vCall S__law_cell_at (aC (vVar 0) (aC (vC (.int 0)) aN)))) (toD (vC (.int 2))))) (toD (vC (.int 2))))))))
  (vSeq (vSet 3 (vAnd (vCmp .gt (vVarD 2) (toD (vC (.int 1)))) (vCmp .eq (toD (v2 modI (frD (vCall S__law_cell_at (aC (vVar 0) (aC (vC (.int 8)) aN)))) (toD (vC (.int 2))))) (toD (vC (.int 0))))))
  (vSeq (vSet 4 (frO (vCall S__law_reckoning (aC (vVar 0) (aC (vVar 1) (aC (vVar 2) (aC (vVar 3) aN)))))))
  (vSeq (vSet 5 (frO (vCall S__law_inputs_by (aC (frO (vCall S__law_cell_at (aC (vVar 0) (aC (vC (.int 9)) aN)))) (aC (vVar 4) (aC (vVar 1) aN))))))
  (vSeq (vSetO 6 (vCall S__law_inputs_by (aC (frO (vCall S__law_cell_at (aC (vVar 0) (aC (vC (.int 10)) aN)))) (aC (vVar 4) (aC (vVar 1) aN)))))
  (vSeq (vIfS (toT (vVar 3)) (vSeq (vPar 7 8 (aC (v2 subI (toD (v2 ixP (toD (v2 ixP (vVarD 4) (toD (vC (.int 0))))) (toD (vC (.int 1))))) (toD (vC (.int 1)))) (aC (v2 subI (toD (v2 ixP (toD (v2 ixP (vVarD 4) (toD (vC (.int 1))))) (toD (vC (.int 1))))) (toD (vC (.int 1)))) aN)))
  (vSeq (vSet 9 (frO (v1 intP (toD (vCmp .eq (vVarD 7) (vVarD 8))))))
  (vSeq (vSet 10 (frO (v2 addV (toD (v2 ixP (toD (v2 ixP (vVarD 5) (vVarD 7))) (toD (vC (.int 0))))) (toD (v2 ixP (toD (v2 ixP (vVarD 5) (vVarD 8))) (vVarD 9))))))
  (vSetI (plX (plN 6) (vVarD 8)) (vVarD 9) (unO (v2 modI (toD (v2 subI (vVarD 10) (toD (plP (plX (plX (plN 6) (vVarD 7)) (toD (vC (.int 0)))))))) (toD (vC (.int 5))))))))) vSkip)
  (vSeq (vSet 11 (frO (vComp (v1 rng1 (vVarD 2)) (gN 14) vYes (vCall S__law_mix (aC (frO (vCall S__law_cell_at (aC (vVar 0) (aC (vC (.int 11)) aN)))) (aC (vVar 14) (aC (vC (.int 5)) aN)))) [14])))
  (vSeq (vSet 12 (v2 ixP (frD (vCall S_seen (aC (vVar 1) (aC (vVar 4) (aC (vVar 5) (aC (vVar 11) (aC (frO (vLst (vCons (toD (vC (.int 1))) vNil))) aN))))))) (toD (vC (.int 2)))))
  (vSeq (vSet 13 (frO (vCall S__law_counted_v1 (aC (vVar 1) (aC (vVar 4) (aC (vVar 5) (aC (vVar 2) (aC (vVar 12) aN))))))))
  (vSeq (vFrz 6 [])
  (vRetP (vAnd (vCmp .gt (vVarD 13) (toD (vC (.int 0)))) (vCmp .eq (vVarD 13) (frD (vCall S__law_counted_v1 (aC (vVar 1) (aC (vVar 4) (aC (vVar 6) (aC (vVar 2) (aC (vVar 12) aN)))))))))))))))))))))
noncomputable def S_law_v20 : Fn := mkFn 14 B_law_v20

/-- _law_first -/
noncomputable def B__law_first : ST := (vSeq (vIfS (toT (vCmp .eq (vVarD 1) (toD (vC (.int 0))))) (vDrop (vMake "Table" S_Table___init__ (aC (vC (.int 9)) (aC (vC (.int 3)) (aC (vC (.int 1)) aN))))) vSkip)
  (vSeq (vIfS (toT (vCmp .eq (vVarD 1) (toD (vC (.int 1))))) (vDrop (vCall S_back (aC (vVar 0) (aC (vC (.int 0)) aN)))) vSkip)
  (vSeq (vIfS (toT (vCmp .eq (vVarD 1) (toD (vC (.int 2))))) (vDrop (vCall S_through (aC (vVar 0) (aC (frO (vLst (vCons (toD (vTup (vCons (toD (vC (.int 1))) (vCons (toD (vC (.int 2))) vNil)))) (vCons (toD (vTup (vCons (toD (vC (.int 3))) (vCons (toD (vC (.int 0))) vNil)))) (vCons (toD (vTup (vCons (toD (vC (.int 1))) (vCons (toD (vC (.int 2))) vNil)))) vNil))))) aN)))) vSkip)
  (vSeq (vIfS (toT (vCmp .eq (vVarD 1) (toD (vC (.int 3))))) (vDrop (vCall S_mended (aC (vVar 0) (aC (frO (v2 addV (frD (vLst (vCons (toD (vC (.int 1))) vNil))) (frD (v2 mulV (frD (vLst (vCons (toD (vC .none)) vNil))) (toD (v2 subI (toD (vFld "Table" "hands" (vVar 0))) (toD (vC (.int 1))))))))) (aC (vC (.int 0)) aN))))) vSkip)
  (vSeq (vIfS (toT (vCmp .eq (vVarD 1) (toD (vC (.int 4))))) (vDrop (vCall S_needs (aC (vVar 0) (aC (frO (vLst (vCons (toD (vTup (vCons (toD (vC (.str "open"))) (vCons (toD (vC (.int 0))) vNil)))) vNil))) aN)))) vSkip)
  (vIfS (toT (vCmp .eq (vVarD 1) (toD (vC (.int 5))))) (vDrop (vCall S_plain (aC (vVar 0) (aC (frO (vLst (vCons (toD (vTup (vCons (toD (vC (.str "anew"))) (vCons (toD (vC (.int 0))) vNil)))) vNil))) (aC (frO (vLst vNil)) aN))))) vSkip))))))
noncomputable def S__law_first : Fn := mkFn 0 B__law_first

/-- _law_second -/
noncomputable def B__law_second : ST := (vSeq (vSet 3 (frO (vLst (vCons (toD (vTup (vCons (toD (vC (.str "in"))) (vCons (toD (vC (.int 1))) vNil)))) vNil))))
  (vSeq (vIfS (toT (vCmp .eq (vVarD 1) (toD (vC (.int 6))))) (vDrop (vCall S_plain (aC (vVar 0) (aC (vVar 3) (aC (frO (vSl (vVarD 2) (vPart (toD (vC (.int 1)))) vNoPart)) aN))))) vSkip)
  (vSeq (vIfS (toT (vCmp .eq (vVarD 1) (toD (vC (.int 7))))) (vDrop (vCall S_run (aC (vVar 0) (aC (vVar 3) (aC (vVar 2) (aC (frO (v2 mulV (frD (vLst (vCons (toD (vC (.int 0))) vNil))) (frD (v2 addV (toD (vFld "Table" "few" (vVar 0))) (toD (vC (.int 1))))))) aN)))))) vSkip)
  (vSeq (vIfS (toT (vCmp .eq (vVarD 1) (toD (vC (.int 8))))) (vDrop (vCall S_seen (aC (vVar 0) (aC (vVar 3) (aC (vVar 2) (aC (frO (v2 mulV (frD (vLst (vCons (toD (vC (.int 0))) vNil))) (toD (vFld "Table" "few" (vVar 0))))) (aC (frO (vLst (vCons (toD (vC (.int 2))) (vCons (toD (vC (.int 1))) vNil)))) aN))))))) vSkip)
  (vSeq (vIfS (toT (vCmp .eq (vVarD 1) (toD (vC (.int 9))))) (vDrop (vCall S_veil (aC (vVar 0) (aC (frO (v2 lrg2 (toD (vC (.int 1))) (frD (v2 addV (toD (vFld "Table" "hands" (vVar 0))) (toD (vC (.int 1))))))) aN)))) vSkip)
  (vSeq (vIfS (toT (vCmp .eq (vVarD 1) (toD (vC (.int 10))))) (vDrop (vCall S_run (aC (vVar 0) (aC (frO (vLst (vCons (toD (vTup (vCons (toD (vC (.str "by"))) (vCons (toD (vC (.int 0))) (vCons (toD (vC (.int 1))) vNil))))) vNil))) (aC (vVar 2) (aC (frO (vLst vNil)) aN)))))) vSkip)
  (vIfS (toT (vCmp .eq (vVarD 1) (toD (vC (.int 11))))) (vDrop (vCall S_seen (aC (vVar 0) (aC (frO (vLst (vCons (toD (vTup (vCons (toD (vC (.str "sum"))) (vCons (toD (vC (.int 0))) (vCons (toD (vC (.int 0))) vNil))))) vNil))) (aC (vVar 2) (aC (frO (vLst vNil)) (aC (frO (vLst vNil)) aN))))))) vSkip)))))))
noncomputable def S__law_second : Fn := mkFn 1 B__law_second
end VL

set_option Elab.async false
set_option linter.all false
set_option maxRecDepth 100000
set_option maxHeartbeats 4000000
namespace VL
open PySem PySem.Spec PyProof.Rows L2

/-! ### evaluation of the plain functions -/
@[simp] theorem bind_ok {α β : Type} (a : α) (k : α → Res β) : (Res.ok a).bind k = k a := rfl
@[simp] theorem bind_err {α β : Type} (c : Str) (k : α → Res β) : (Res.err c : Res α).bind k = .err c := rfl
@[simp] theorem bind_bad {α β : Type} (k : α → Res β) : (Res.bad : Res α).bind k = .bad := rfl
theorem bind_congr {α β : Type} (r : Res α) {k k' : α → Res β} (h : ∀ x, k x = k' x) : r.bind k = r.bind k' := by cases r <;> simp [Res.bind, h]
theorem bind_assoc {α β γ : Type} (r : Res α) (k : α → Res β) (j : β → Res γ) : (r.bind k).bind j = r.bind fun a => (k a).bind j := by cases r <;> rfl
def dOf : FV → Res PyData
  | .d p => .ok p
  | _ => .bad
@[simp] theorem dOf_d (p : PyData) : dOf (.d p) = .ok p := rfl
def frF (s : SV) : Res FV := match s.frz? with
  | some x => .ok x
  | none => .bad
@[simp] theorem frF_f (x : FV) : frF (.f x) = .ok x := rfl
@[simp] theorem frF_dl (ds : List PyData) : frF (SV.dl ds) = .ok (.d (.list ds)) := by unfold frF; rw [frz?_dl]
@[simp] theorem toD_ap (f : FP) (e : Env) : toD f e = (f e).bind dOf := by
  exact bind_congr _ fun x => by cases x <;> rfl
@[simp] theorem frO_ap (f : FO) (e : Env) : frO f e = (f e).bind frF := rfl
theorem frz_frF (s : SV) : (match s.frz with | some x => Res.ok x | none => .bad) = (frF s).bind dOf := by
  cases s with
  | f x => cases x <;> rfl
  | own xs =>
    show (match (SV.frzs xs).map PyData.list with | some x => Res.ok x | none => .bad) = (match (SV.frzs xs).map (fun ps => FV.d (.list ps)) with | some x => Res.ok x | none => .bad).bind dOf
    cases SV.frzs xs <;> rfl
  | otup xs =>
    show (match (SV.frzs xs).map PyData.tuple with | some x => Res.ok x | none => .bad) = (match (SV.frzs xs).map (fun ps => FV.d (.tuple ps)) with | some x => Res.ok x | none => .bad).bind dOf
    cases SV.frzs xs <;> rfl
  | obj c fs =>
    show Res.bad = (match (SV.frzf fs).map (fun ps => FV.ob c ps) with | some x => Res.ok x | none => .bad).bind dOf
    cases SV.frzf fs <;> rfl
@[simp] theorem frD_ap (f : FO) (e : Env) : frD f e = ((f e).bind frF).bind dOf := by
  rw [bind_assoc]
  exact bind_congr _ fun s => frz_frF s
@[simp] theorem unO_ap (f : FP) (e : Env) : unO f e = (f e).bind fun x => .ok (.f x) := rfl
/-- names -/
def ldP : Option Slot → Res FV
  | some (.va (.f x)) => .ok x
  | some (.rf (.f x)) => .ok x
  | some (.vw (.f x)) => .ok x
  | _ => .bad
@[simp] theorem ldP_va (x : FV) : ldP (some (.va (.f x))) = .ok x := rfl
@[simp] theorem ldP_rf (x : FV) : ldP (some (.rf (.f x))) = .ok x := rfl
@[simp] theorem ldP_vw (x : FV) : ldP (some (.vw (.f x))) = .ok x := rfl
@[simp] theorem vVar_ap (i : Nat) (e : Env) : vVar i e = ldP e[i]? := by
  unfold vVar ldP
  rfl
@[simp] theorem ldS_f (p : PyData) : ldS (.f (.d p)) = .ok p := rfl
@[simp] theorem ldS_dl (ds : List PyData) : ldS (SV.dl ds) = .ok (.list ds) := by
  show (match SV.leafs (ds.map fun p => .f (.d p)) with | some ds => Res.ok (PyData.list ds) | none => .bad) = _
  rw [leafs_map]
def ldD : Option Slot → Res PyData
  | some (.va s) => ldS s
  | some (.rf s) => ldS s
  | some (.vw s) => ldS s
  | _ => .bad
@[simp] theorem ldD_va (s : SV) : ldD (some (.va s)) = ldS s := rfl
@[simp] theorem ldD_rf (s : SV) : ldD (some (.rf s)) = ldS s := rfl
@[simp] theorem ldD_vw (s : SV) : ldD (some (.vw s)) = ldS s := rfl
@[simp] theorem vVarD_ap (i : Nat) (e : Env) : vVarD i e = ldD e[i]? := by
  unfold vVarD ldD ldS
  cases e[i]? with
  | none => rfl
  | some s =>
    cases s with
    | no => rfl
    | va s => cases s with
      | f x => cases x <;> rfl
      | _ => rfl
    | rf s => cases s with
      | f x => cases x <;> rfl
      | _ => rfl
    | vw s => cases s with
      | f x => cases x <;> rfl
      | _ => rfl
@[simp] theorem vC_ap (p : PyData) (e : Env) : vC p e = .ok (.d p) := rfl
@[simp] theorem v1_ap {α : Type} (h : PyData → Res α) (f : FD) (e : Env) : v1 h f e = (f e).bind h := rfl
@[simp] theorem v2_ap {α : Type} (h : PyData → PyData → Res α) (f g : FD) (e : Env) : v2 h f g e = (f e).bind fun x => (g e).bind fun y => h x y := rfl
@[simp] theorem vCmp_ap (c : Cop) (f g : FD) (e : Env) : vCmp c f g e = (f e).bind fun x => (g e).bind fun y => c.h x y := rfl
/-! whole numbers -/
@[simp] theorem subI_i (i j : Int) : subI (.int i) (.int j) = .ok (.d (.int (i - j))) := rfl
@[simp] theorem cIf_yes {α : Type} {c : Prop} {a b : α} (h : c) : cIf c a b = a := cIf_pos h
@[simp] theorem modI_i (i j : Int) : modI (.int i) (.int j) = cIf (0 < j) (.ok (.d (.int (i % j)))) .bad := rfl
@[simp] theorem divI_i (i j : Int) : divI (.int i) (.int j) = cIf (0 < j ∧ j < 1073741824) (.ok (.d (.int (i / j)))) .bad := rfl
@[simp] theorem addV_i (i j : Int) : addV (.int i) (.int j) = .ok (.f (.d (.int (i + j)))) := rfl
@[simp] theorem addV_l (xs ys : List PyData) : addV (.list xs) (.list ys) = cIf (xs.length + ys.length ≤ 16777216) (.ok (SV.dl (xs ++ ys))) .bad := rfl
@[simp] theorem addV_t (xs ys : List PyData) : addV (.tuple xs) (.tuple ys) = cIf (xs.length + ys.length ≤ 16777216) (.ok (.f (.d (.tuple (xs ++ ys))))) .bad := rfl
@[simp] theorem mulV_i (i j : Int) : mulV (.int i) (.int j) = cIf ((-18446744073709551616 < i ∧ i < 18446744073709551616) ∨ (-18446744073709551616 < j ∧ j < 18446744073709551616)) (.ok (.f (.d (.int (i * j))))) .bad := rfl
@[simp] theorem mulV_rep (xs : List PyData) (k : Int) : mulV (.list xs) (.int k) = cIf (0 ≤ k ∧ k < 1000000 ∧ xs.length * k.toNat ≤ 16777216) (.ok (SV.dl (List.replicate k.toNat xs).flatten)) .bad := rfl
@[simp] theorem negI_i (i : Int) : negI (.int i) = .ok (.d (.int (-i))) := rfl
@[simp] theorem maxI_i (i j : Int) : maxI (.int i) (.int j) = .ok (.d (.int (if j > i then j else i))) := rfl
@[simp] theorem minI_i (i j : Int) : minI (.int i) (.int j) = .ok (.d (.int (if j < i then j else i))) := rfl
/-! comparisons -/
@[simp] theorem cop_lt (i j : Int) : Cop.h .lt (.int i) (.int j) = .ok (.d (.bool (decide (i < j)))) := rfl
@[simp] theorem cop_le (i j : Int) : Cop.h .le (.int i) (.int j) = .ok (.d (.bool (decide (i ≤ j)))) := rfl
@[simp] theorem cop_gt (i j : Int) : Cop.h .gt (.int i) (.int j) = .ok (.d (.bool (decide (j < i)))) := rfl
@[simp] theorem cop_ge (i j : Int) : Cop.h .ge (.int i) (.int j) = .ok (.d (.bool (decide (j ≤ i)))) := rfl
/-- data without bools, not deep -/
def fit : Nat → PyData → Bool
  | _, .none => true
  | _, .int _ => true
  | _, .str x => PyData.strOk x
  | n + 1, .list xs => xs.all (fit n)
  | n + 1, .tuple xs => xs.all (fit n)
  | _, _ => false
theorem fit_shape : ∀ (n : Nat) (d : PyData), fit n d = true → d.canLay0 = true ∧ d.depth ≤ n := by
  intro n
  induction n with
  | zero =>
    intro d h
    cases d with
    | none => exact ⟨by simp [PyData.canLay0], by simp [PyData.depth]⟩
    | int i => exact ⟨by simp [PyData.canLay0], by simp [PyData.depth]⟩
    | str x => exact ⟨by simpa [PyData.canLay0, fit] using h, by simp [PyData.depth]⟩
    | bool b => exact absurd h (by simp [fit])
    | list xs => exact absurd h (by simp [fit])
    | tuple xs => exact absurd h (by simp [fit])
    | dict xs => exact absurd h (by simp [fit])
  | succ n ih =>
    have key : ∀ xs : List PyData, xs.all (fit n) = true → PyData.canLayAll0 xs = true ∧ PyData.depthAll xs ≤ n := by
      intro xs
      induction xs with
      | nil => intro _; exact ⟨by simp [PyData.canLayAll0], by simp [PyData.depthAll]⟩
      | cons x xs ihx =>
        intro h
        rw [List.all_cons, Bool.and_eq_true] at h
        obtain ⟨a1, a2⟩ := ih x h.1
        obtain ⟨b1, b2⟩ := ihx h.2
        exact ⟨by simp [PyData.canLayAll0, a1, b1], by simp only [PyData.depthAll]; omega⟩
    intro d h
    cases d with
    | none => exact ⟨by simp [PyData.canLay0], by simp [PyData.depth]⟩
    | int i => exact ⟨by simp [PyData.canLay0], by simp [PyData.depth]⟩
    | str x => exact ⟨by simpa [PyData.canLay0, fit] using h, by simp [PyData.depth]⟩
    | bool b => exact absurd h (by simp [fit])
    | list xs =>
      obtain ⟨a, b⟩ := key xs (by simpa [fit] using h)
      exact ⟨by simpa [PyData.canLay0] using a, by simp only [PyData.depth]; omega⟩
    | tuple xs =>
      obtain ⟨a, b⟩ := key xs (by simpa [fit] using h)
      exact ⟨by simpa [PyData.canLay0] using a, by simp only [PyData.depth]; omega⟩
    | dict xs => exact absurd h (by simp [fit])
theorem fit_shaped {n : Nat} {d : PyData} (h : fit n d = true) (hn : n ≤ 64) : SeqAt.shaped d = true := by
  obtain ⟨a, b⟩ := fit_shape n d h
  unfold SeqAt.shaped
  rw [a, Bool.true_and]
  exact decide_eq_true (by omega)
theorem fit_eqv : ∀ (n : Nat) (d e : PyData), fit n d = true → fit n e = true → (PyData.eqv d e = true ↔ d = e) := by
  intro n
  induction n with
  | zero =>
    intro d e h h'
    cases d <;> cases e <;> simp_all [fit, PyData.eqv]
  | succ n ih =>
    have key : ∀ xs ys : List PyData, xs.all (fit n) = true → ys.all (fit n) = true → (PyData.eqvAll xs ys = true ↔ xs = ys) := by
      intro xs
      induction xs with
      | nil => intro ys _ _; cases ys <;> simp [PyData.eqvAll]
      | cons x xs ihx =>
        intro ys h h'
        cases ys with
        | nil => simp [PyData.eqvAll]
        | cons y ys =>
          rw [List.all_cons, Bool.and_eq_true] at h h'
          simp only [PyData.eqvAll, Bool.and_eq_true, ih x y h.1 h'.1, ihx ys h.2 h'.2, List.cons.injEq]
    intro d e h h'
    cases d with
    | list xs =>
      cases e with
      | list ys =>
        simp only [PyData.eqv, PyData.list.injEq]
        exact key xs ys (by simpa [fit] using h) (by simpa [fit] using h')
      | _ => simp_all [fit, PyData.eqv]
    | tuple xs =>
      cases e with
      | tuple ys =>
        simp only [PyData.eqv, PyData.tuple.injEq]
        exact key xs ys (by simpa [fit] using h) (by simpa [fit] using h')
      | _ => simp_all [fit, PyData.eqv]
    | _ => cases e <;> simp_all [fit, PyData.eqv]
open Classical in
theorem cop_eq {d e : PyData} (n : Nat) (h : fit n d = true) (h' : fit n e = true) (hn : n ≤ 64 := by decide) : Cop.h .eq d e = .ok (.d (.bool (decide (d = e)))) := by
  show eqP d e = _
  unfold eqP
  rw [if_pos ⟨fit_shaped h hn, fit_shaped h' hn⟩]
  have k := fit_eqv n d e h h'
  show Res.ok (FV.d (.bool (PyData.eqv d e))) = _
  by_cases q : d = e
  · rw [decide_eq_true q, k.mpr q]
  · rw [decide_eq_false q, Bool.eq_false_iff.mpr fun z => q (k.mp z)]
open Classical in
theorem cop_ne {d e : PyData} (n : Nat) (h : fit n d = true) (h' : fit n e = true) (hn : n ≤ 64 := by decide) : Cop.h .ne d e = .ok (.d (.bool (!decide (d = e)))) := by
  show neP d e = _
  unfold neP
  rw [if_pos ⟨fit_shaped h hn, fit_shaped h' hn⟩]
  have k := fit_eqv n d e h h'
  show Res.ok (FV.d (.bool (!PyData.eqv d e))) = _
  by_cases q : d = e
  · rw [decide_eq_true q, k.mpr q]
  · rw [decide_eq_false q, Bool.eq_false_iff.mpr fun z => q (k.mp z)]
@[simp] theorem cop_eq_i (i j : Int) : Cop.h .eq (.int i) (.int j) = .ok (.d (.bool (decide (i = j)))) := by
  rw [cop_eq 0 rfl rfl]
  simp
@[simp] theorem cop_ne_i (i j : Int) : Cop.h .ne (.int i) (.int j) = .ok (.d (.bool (!decide (i = j)))) := by
  rw [cop_ne 0 rfl rfl]
  simp
@[simp] theorem cop_eq_s (i j : Str) (hi : PyData.strOk i = true) (hj : PyData.strOk j = true) : Cop.h .eq (.str i) (.str j) = .ok (.d (.bool (decide (i = j)))) := by
  rw [cop_eq (d := .str i) (e := .str j) 0 hi hj]
  simp
@[simp] theorem cop_ne_s (i j : Str) (hi : PyData.strOk i = true) (hj : PyData.strOk j = true) : Cop.h .ne (.str i) (.str j) = .ok (.d (.bool (!decide (i = j)))) := by
  rw [cop_ne (d := .str i) (e := .str j) 0 hi hj]
  simp
/-- rows of whole numbers as data -/
def iL (ns : List Int) : PyData := .list (ns.map .int)
theorem fit_intsL (n : Nat) (ns : List Int) : (ns.map PyData.int).all (fit n) = true := by
  rw [List.all_eq_true]
  intro x m
  obtain ⟨i, _, rfl⟩ := List.mem_map.mp m
  cases n <;> rfl
theorem fit_ints (n : Nat) (ns : List Int) : fit (n + 1) (iL ns) = true := fit_intsL n ns
theorem map_int_inj {a b : List Int} : a.map PyData.int = b.map PyData.int ↔ a = b := by
  constructor
  · intro h
    induction a generalizing b with
    | nil => cases b with | nil => rfl | cons _ _ => cases h
    | cons x a ih => cases b with
      | nil => cases h
      | cons y b =>
        simp only [List.map_cons, List.cons.injEq, PyData.int.injEq] at h
        rw [h.1, ih h.2]
  · rintro rfl; rfl
theorem ints_inj {a b : List Int} : iL a = iL b ↔ a = b := by
  unfold iL
  rw [PyData.list.injEq, map_int_inj]
@[simp] theorem cop_eq_ints (a b : List Int) : Cop.h .eq (.list (a.map .int)) (.list (b.map .int)) = .ok (.d (.bool (decide (a = b)))) := by
  rw [cop_eq (d := .list (a.map .int)) (e := .list (b.map .int)) 1 (fit_intsL 0 a) (fit_intsL 0 b)]
  simp [map_int_inj]
@[simp] theorem cop_ne_ints (a b : List Int) : Cop.h .ne (.list (a.map .int)) (.list (b.map .int)) = .ok (.d (.bool (!decide (a = b)))) := by
  rw [cop_ne (d := .list (a.map .int)) (e := .list (b.map .int)) 1 (fit_intsL 0 a) (fit_intsL 0 b)]
  simp [map_int_inj]
theorem inV_ints (x : Int) (ns : List Int) : inV (.int x) (ns.map fun i => V.int i) = decide (x ∈ ns) := by
  induction ns with
  | nil => rfl
  | cons n ns ih =>
    have e : inV (.int x) ((n :: ns).map fun i => V.int i) = ((n == x) || inV (.int x) (ns.map fun i => V.int i)) := rfl
    rw [e, ih]
    by_cases q : n = x
    · subst q; simp
    · have q' : ¬ x = n := fun z => q z.symm
      simp [q, q']
theorem flat_intsL (ns : List Int) : (ns.map PyData.int).all flatP = true := by
  rw [List.all_eq_true]
  intro x m
  obtain ⟨i, _, rfl⟩ := List.mem_map.mp m
  rfl
theorem toV_ints (ns : List Int) : (ns.map PyData.int).map toV = ns.map fun i => V.int i := by
  rw [List.map_map]; rfl
@[simp] theorem cop_in_ints (x : Int) (ns : List Int) : Cop.h .isin (.int x) (.list (ns.map .int)) = .ok (.d (.bool (decide (x ∈ ns)))) := by
  rw [show Cop.h .isin (.int x) (.list (ns.map .int)) = inP false (.int x) (.list (ns.map .int)) from rfl]
  show (if flatP (.int x) = true ∧ (ns.map PyData.int).all flatP = true then inB false (inV (toV (.int x)) ((ns.map PyData.int).map toV)) else _) = _
  rw [if_pos ⟨rfl, flat_intsL ns⟩, toV_ints]
  show Res.ok (FV.d (.bool (inV (.int x) _))) = _
  rw [inV_ints]
@[simp] theorem cop_notin_ints (x : Int) (ns : List Int) : Cop.h .notin (.int x) (.list (ns.map .int)) = .ok (.d (.bool (!decide (x ∈ ns)))) := by
  rw [show Cop.h .notin (.int x) (.list (ns.map .int)) = inP true (.int x) (.list (ns.map .int)) from rfl]
  show (if flatP (.int x) = true ∧ (ns.map PyData.int).all flatP = true then inB true (inV (toV (.int x)) ((ns.map PyData.int).map toV)) else _) = _
  rw [if_pos ⟨rfl, flat_intsL ns⟩, toV_ints]
  show Res.ok (FV.d (.bool (!inV (.int x) _))) = _
  rw [inV_ints]
@[simp] theorem cop_notin_tints (x : Int) (ns : List Int) : Cop.h .notin (.int x) (.tuple (ns.map .int)) = .ok (.d (.bool (!decide (x ∈ ns)))) := by
  rw [show Cop.h .notin (.int x) (.tuple (ns.map .int)) = inP true (.int x) (.tuple (ns.map .int)) from rfl]
  show (if flatP (.int x) = true ∧ (ns.map PyData.int).all flatP = true then inB true (inV (toV (.int x)) ((ns.map PyData.int).map toV)) else _) = _
  rw [if_pos ⟨rfl, flat_intsL ns⟩, toV_ints]
  show Res.ok (FV.d (.bool (!inV (.int x) _))) = _
  rw [inV_ints]
/-! tests -/
def bOf : FV → Res Bool
  | .d (.bool b) => .ok b
  | _ => .bad
@[simp] theorem bOf_b (b : Bool) : bOf (.d (.bool b)) = .ok b := rfl
@[simp] theorem toT_ap (f : FP) (e : Env) : toT f e = (f e).bind bOf := by
  exact bind_congr _ fun x => by
    cases x with
    | d p => cases p <;> rfl
    | _ => rfl
@[simp] theorem vAndT_ap (f g : FT) (e : Env) : vAndT f g e = (f e).bind fun b => if b = true then g e else .ok false := rfl
@[simp] theorem vOrT_ap (f g : FT) (e : Env) : vOrT f g e = (f e).bind fun b => if b = true then .ok true else g e := rfl
@[simp] theorem vNotT_ap (f : FT) (e : Env) : vNotT f e = (f e).bind fun b => .ok (!b) := rfl
@[simp] theorem bB_b {α : Type} (k : Bool → Res α) (b : Bool) : bB k (.d (.bool b)) = k b := rfl
@[simp] theorem vAnd_ap (f g : FP) (e : Env) : vAnd f g e = (f e).bind (bB fun b => if b = true then g e else .ok (.d (.bool false))) := rfl
@[simp] theorem vOr_ap (f g : FP) (e : Env) : vOr f g e = (f e).bind (bB fun b => if b = true then .ok (.d (.bool true)) else g e) := rfl
@[simp] theorem vNot_ap (f : FP) (e : Env) : vNot f e = (f e).bind (bB fun b => .ok (.d (.bool (!b)))) := rfl
@[simp] theorem vIf_ap {α : Type} (t : FT) (f g : Env → Res α) (e : Env) : vIf t f g e = (t e).bind fun b => if b = true then f e else g e := rfl
@[simp] theorem iB_ap (b : Bool) : iB b = .ok (.d (.bool b)) := rfl
@[simp] theorem iI_ap (b : Int) : iI b = .ok (.d (.int b)) := rfl
def chB (k : Res FV) : FV → Res FV
  | .d (.bool true) => k
  | .d (.bool false) => .ok (.d (.bool false))
  | _ => .bad
@[simp] theorem chB_b (k : Res FV) (b : Bool) : chB k (.d (.bool b)) = if b = true then k else .ok (.d (.bool false)) := by cases b <;> rfl
@[simp] theorem vChain_ap (c c' : Cop) (f g h : FD) (e : Env) : vChain c c' f g h e = (f e).bind fun x => (g e).bind fun y => (c.h x y).bind (chB ((h e).bind fun z => c'.h y z)) := by
  exact bind_congr _ fun x => bind_congr _ fun y => bind_congr _ fun z => by
    cases z with
    | d p => cases p with
      | bool b => cases b <;> rfl
      | _ => rfl
    | _ => rfl
@[simp] theorem isN_none : isN .none = true := rfl
@[simp] theorem isN_int (i : Int) : isN (.int i) = false := rfl
@[simp] theorem isN_str (i : Str) : isN (.str i) = false := rfl
@[simp] theorem isN_list (i : List PyData) : isN (.list i) = false := rfl
@[simp] theorem isN_tuple (i : List PyData) : isN (.tuple i) = false := rfl
@[simp] theorem isN_bool (i : Bool) : isN (.bool i) = false := rfl
@[simp] theorem isI_int (i : Int) : isI .int (.int i) = true := rfl
@[simp] theorem isI_intB (i : Int) : isI .bool (.int i) = false := rfl
@[simp] theorem isI_intL (i : Int) : isI .list (.int i) = false := rfl
@[simp] theorem isI_intT (i : Int) : isI .tuple (.int i) = false := rfl
@[simp] theorem isI_listL (i : List PyData) : isI .list (.list i) = true := rfl
@[simp] theorem isI_listT (i : List PyData) : isI .tuple (.list i) = false := rfl
@[simp] theorem isI_listI (i : List PyData) : isI .int (.list i) = false := rfl
@[simp] theorem isI_tupL (i : List PyData) : isI .list (.tuple i) = false := rfl
@[simp] theorem isI_tupT (i : List PyData) : isI .tuple (.tuple i) = true := rfl
@[simp] theorem isI_noneL : isI .list .none = false := rfl
@[simp] theorem isI_noneT : isI .tuple .none = false := rfl
@[simp] theorem isI_noneI : isI .int .none = false := rfl
/-! fields, places -/
@[simp] theorem vFld_ap (cn n : Str) (f : FP) (e : Env) : vFld cn n f e = (f e).bind (fldP cn n) := rfl
def oP : Option PyData → Res FV
  | some d => .ok (.d d)
  | none => .bad
@[simp] theorem oP_some (d : PyData) : oP (some d) = .ok (.d d) := rfl
@[simp] theorem ixP_l (ds : List PyData) (i : Int) : ixP (.list ds) (.int i) = oP (atI ds i) := rfl
@[simp] theorem ixP_t (ds : List PyData) (i : Int) : ixP (.tuple ds) (.int i) = oP (atI ds i) := rfl
def oI : Option Int → Res FV
  | some d => .ok (.d (.int d))
  | none => .bad
theorem atI_pos {α : Type} {xs : List α} {i : Int} (h0 : 0 ≤ i) : atI xs i = xs[i.toNat]? := by
  unfold L2.atI L2.ixN
  rw [if_pos h0]
  by_cases h : i < xs.length
  · rw [if_pos h]; rfl
  · rw [if_neg h]
    show none = _
    rw [List.getElem?_eq_none (by omega)]
/-! arguments, displays -/
@[simp] theorem vNil_ap (e : Env) : vNil e = .ok [] := rfl
@[simp] theorem vCons_ap (f : FD) (g : Env → Res (List PyData)) (e : Env) : vCons f g e = (f e).bind fun x => (g e).bind fun xs => .ok (x :: xs) := rfl
@[simp] theorem vLst_ap (g : Env → Res (List PyData)) (e : Env) : vLst g e = (g e).bind fun xs => cIf (xs.length ≤ 16777216) (.ok (SV.dl xs)) .bad := rfl
@[simp] theorem vTup_ap (g : Env → Res (List PyData)) (e : Env) : vTup g e = (g e).bind fun xs => cIf (xs.length ≤ 16777216) (.ok (.d (.tuple xs))) .bad := rfl
@[simp] theorem aN_ap (e : Env) : aN e = .ok [] := rfl
@[simp] theorem aC_ap (f : FP) (g : Env → Res (List FV)) (e : Env) : aC f g e = (f e).bind fun x => (g e).bind fun xs => .ok (x :: xs) := rfl
/-! built-ins -/
@[simp] theorem lenP_l (ds : List PyData) : lenP (.list ds) = .ok (.d (.int ds.length)) := rfl
@[simp] theorem lenP_t (ds : List PyData) : lenP (.tuple ds) = .ok (.d (.int ds.length)) := rfl
@[simp] theorem listP_l (ds : List PyData) : listP (.list ds) = .ok (SV.dl ds) := rfl
@[simp] theorem listP_t (ds : List PyData) : listP (.tuple ds) = .ok (SV.dl ds) := rfl
@[simp] theorem sumP_ints (ns : List Int) : sumP (.list (ns.map .int)) = .ok (.d (.int ns.sum)) := by
  show (match intsOf (ns.map .int) with | some ns => iI ns.sum | none => .bad) = _
  rw [intsOf_map]; rfl
@[simp] theorem allP_bools (ns : List Bool) : allP (.list (ns.map .bool)) = .ok (.d (.bool (ns.all id))) := by
  show (match boolsOf (ns.map .bool) with | some ns => iB (ns.all id) | none => .bad) = _
  rw [boolsOf_map]; rfl
@[simp] theorem sortP_ints (ns : List Int) : sortP (.list (ns.map .int)) = .ok (SV.dl ((srtI ns).map .int)) := by
  show (match intsOf (ns.map .int) with | some ns => Res.ok (SV.dl ((srtI ns).map .int)) | none => .bad) = _
  rw [intsOf_map]
@[simp] theorem intP_i (i : Int) : intP (.int i) = .ok (.f (.d (.int i))) := rfl
@[simp] theorem intP_b (b : Bool) : intP (.bool b) = .ok (.f (.d (.int (if b then 1 else 0)))) := rfl
/-! calls -/
def run (S : Fn) (xs : List FV) : Res FV := (outR (S (xs.map vaF))).bind frF
@[simp] theorem vCall_fr (S : Fn) (fs : Env → Res (List FV)) (e : Env) : (vCall S fs e).bind frF = (fs e).bind (run S) := by
  unfold vCall run
  rw [bind_assoc]
/-! statements -/
def Flow.andThen (f : Flow) (g : ST) : Flow := match f with
  | .nx e => g e
  | r => r
@[simp] theorem andThen_nx (e : Env) (g : ST) : (Flow.nx e).andThen g = g e := rfl
@[simp] theorem andThen_rt (v : SV) (e : Env) (g : ST) : (Flow.rt v e).andThen g = .rt v e := rfl
@[simp] theorem andThen_err (c : Str) (e : Env) (g : ST) : (Flow.err c e).andThen g = .err c e := rfl
@[simp] theorem andThen_bad (g : ST) : (Flow.bad).andThen g = .bad := rfl
@[simp] theorem vSeq_ap (f g : ST) (e : Env) : vSeq f g e = (f e).andThen g := by
  unfold vSeq Flow.andThen
  cases f e <;> rfl
@[simp] theorem vSkip_ap (e : Env) : vSkip e = .nx e := rfl
@[simp] theorem ofR_ok {α : Type} (a : α) (e : Env) (k : α → Flow) : ofR (.ok a) e k = k a := rfl
@[simp] theorem ofR_err {α : Type} (c : Str) (e : Env) (k : α → Flow) : ofR (.err c : Res α) e k = .err c e := rfl
@[simp] theorem ofR_bad {α : Type} (e : Env) (k : α → Flow) : ofR (.bad : Res α) e k = .bad := rfl
def free : Slot → Bool
  | .rf _ => false
  | _ => true
@[simp] theorem free_no : free .no = true := id rfl
@[simp] theorem free_va (s : SV) : free (.va s) = true := id rfl
@[simp] theorem free_vw (s : SV) : free (.vw s) = true := id rfl
theorem setS_ap {e : Env} {i : Nat} {s t : Slot} (h : e[i]? = some t) (f : free t = true) : setS e i s = .nx (e.set i s) := by
  unfold setS
  have : canSet e i = true := by
    unfold canSet
    rw [h]
    cases t <;> first | rfl | cases f
  rw [if_pos this]
@[simp] theorem setS_0 (t : Slot) (r : Env) (s : Slot) (f : free t = true) : setS (t :: r) 0 s = .nx (s :: r) := setS_ap (t := t) rfl f
@[simp] theorem setS_1 (a t : Slot) (r : Env) (s : Slot) (f : free t = true) : setS (a :: t :: r) 1 s = .nx (a :: s :: r) := setS_ap (t := t) rfl f
@[simp] theorem setS_2 (a b t : Slot) (r : Env) (s : Slot) (f : free t = true) : setS (a :: b :: t :: r) 2 s = .nx (a :: b :: s :: r) := setS_ap (t := t) rfl f
@[simp] theorem setS_n (i : Nat) (a b c : Slot) (r : Env) (s : Slot) (f : ((r[i]?).map free) = some true) : setS (a :: b :: c :: r) (i + 3) s = .nx (a :: b :: c :: r.set i s) := by
  cases z : r[i]? with
  | none => rw [z] at f; cases f
  | some t =>
    rw [z] at f
    exact setS_ap (t := t) (by simpa using z) (Option.some.inj f)
@[simp] theorem vSet_ap (i : Nat) (f : FP) (e : Env) : vSet i f e = ofR (f e) e fun x => setS e i (.va (.f x)) := rfl
@[simp] theorem vSetO_ap (i : Nat) (f : FO) (e : Env) : vSetO i f e = ofR (f e) e fun x => setS e i (.va x) := rfl
@[simp] theorem vIfS_ap (t : FT) (f g : ST) (e : Env) : vIfS t f g e = ofR (t e) e fun b => if b = true then f e else g e := rfl
@[simp] theorem vRaise_ap (c : Str) (e : Env) : vRaise c e = .err c e := rfl
@[simp] theorem vRetN_ap (e : Env) : vRetN e = .rt (.f (.d .none)) e := rfl
@[simp] theorem vRetP_ap (f : FP) (e : Env) : vRetP f e = ofR (f e) e fun x => .rt (.f x) e := rfl
@[simp] theorem vRet_ap (f : FO) (e : Env) : vRet f e = ofR (f e) e fun x => .rt x e := rfl
def fin : Flow → Res FV
  | .rt s _ => frF s
  | .nx _ => .ok (.d .none)
  | .err c _ => .err c
  | .bad => .bad
@[simp] theorem fin_rt (s : SV) (e : Env) : fin (.rt s e) = frF s := rfl
@[simp] theorem fin_nx (e : Env) : fin (.nx e) = .ok (.d .none) := rfl
@[simp] theorem fin_err (c : Str) (e : Env) : fin (.err c e) = .err c := rfl
theorem fin_ofR {α : Type} (r : Res α) (e : Env) (k : α → Flow) : fin (ofR r e k) = r.bind fun a => fin (k a) := by cases r <;> rfl
@[simp] theorem fin_ret (r : Res SV) (e : Env) : fin (ofR r e fun s => .rt s e) = r.bind frF := by cases r <;> rfl
theorem run_mk (nl : Nat) (body : ST) (xs : List FV) : run (mkFn nl body) xs = fin (body (xs.map vaF ++ List.replicate nl .no)) := by
  unfold run mkFn
  cases body (xs.map vaF ++ List.replicate nl .no) <;> rfl
@[simp] theorem vaF_eq (x : FV) : vaF x = .va (.f x) := rfl
/-! loops -/
@[simp] theorem vItL_ap (f : FD) (e : Env) : vItL f e = (f e).bind asL := rfl
@[simp] theorem asL_l (ds : List PyData) : asL (.list ds) = .ok ds := rfl
@[simp] theorem vItRev_ap (f : FD) (e : Env) : vItRev f e = (f e).bind fun x => (asL x).bind fun ds => .ok ds.reverse := rfl
@[simp] theorem vItEnum_ap (f : FD) (e : Env) : vItEnum f e = (f e).bind fun x => (asL x).bind fun ds => .ok (enumP 0 ds) := rfl
@[simp] theorem vItZip_ap (f g : FD) (e : Env) : vItZip f g e = (f e).bind fun x => (g e).bind fun y => (asL x).bind fun ds => (asL y).bind fun es => .ok (zipP ds es) := rfl
@[simp] theorem rng1_ap (j : Int) : rng1 (.int j) = cIf (-4611686018427387904 ≤ j ∧ j < 4611686018427387904) (.ok (rngP 0 j.toNat)) .bad := rfl
@[simp] theorem rng2_ap (i j : Int) : rng2 (.int i) (.int j) = cIf (-4611686018427387904 ≤ i ∧ i < 4611686018427387904 ∧ -4611686018427387904 ≤ j ∧ j < 4611686018427387904) (.ok (rngP i (j - i).toNat)) .bad := rfl
@[simp] theorem lrg2_ap (i j : Int) : lrg2 (.int i) (.int j) = cIf (0 ≤ i ∧ i ≤ 16777216 ∧ 0 ≤ j ∧ j ≤ 16777216) (.ok (SV.dl (rngP i (j - i).toNat))) .bad := rfl
@[simp] theorem vFor_ap (it : IT) (g : Tgt) (b : ST) (e : Env) : vFor it g b e = ofR (it e) e fun items => forL g b items e := rfl
@[simp] theorem forL_nil (g : Tgt) (b : ST) (e : Env) : forL g b [] e = .nx e := rfl
def tgt (g : Tgt) (x : PyData) (e : Env) (k : Env → Flow) : Flow := match g x e with
  | some e1 => k e1
  | none => .bad
theorem forL_cons (g : Tgt) (b : ST) (x : PyData) (xs : List PyData) (e : Env) : forL g b (x :: xs) e = tgt g x e fun e1 => (b e1).andThen (forL g b xs) := by
  show (match g x e with | some e1 => (match b e1 with | .nx e2 => forL g b xs e2 | r => r) | none => .bad) = _
  unfold tgt
  cases g x e with
  | none => rfl
  | some e1 =>
    dsimp only
    unfold Flow.andThen
    cases b e1 <;> rfl
theorem tgt_some {g : Tgt} {x : PyData} {e e1 : Env} {k : Env → Flow} (h : g x e = some e1) : tgt g x e k = k e1 := by unfold tgt; rw [h]
theorem gN_ap {i : Nat} {x : PyData} {e : Env} {t : Slot} (h : e[i]? = some t) (f : free t = true) : gN i x e = some (e.set i (.va (.f (.d x)))) := by
  unfold gN
  have : canSet e i = true := by
    unfold canSet
    rw [h]
    cases t <;> first | rfl | cases f
  rw [if_pos this]
@[simp] theorem gN_0 (x : PyData) (t : Slot) (r : Env) (f : free t = true) : gN 0 x (t :: r) = some (.va (.f (.d x)) :: r) := gN_ap (t := t) rfl f
@[simp] theorem gN_1 (x : PyData) (a t : Slot) (r : Env) (f : free t = true) : gN 1 x (a :: t :: r) = some (a :: .va (.f (.d x)) :: r) := gN_ap (t := t) rfl f
@[simp] theorem gN_2 (x : PyData) (a b t : Slot) (r : Env) (f : free t = true) : gN 2 x (a :: b :: t :: r) = some (a :: b :: .va (.f (.d x)) :: r) := gN_ap (t := t) rfl f
@[simp] theorem gN_n (i : Nat) (x : PyData) (a b c : Slot) (r : Env) (f : ((r[i]?).map free) = some true) : gN (i + 3) x (a :: b :: c :: r) = some (a :: b :: c :: r.set i (.va (.f (.d x)))) := by
  cases z : r[i]? with
  | none => rw [z] at f; cases f
  | some t =>
    rw [z] at f
    exact gN_ap (t := t) (by simpa using z) (Option.some.inj f)
@[simp] theorem gsN_ap (e : Env) : gsN [] e = some e := rfl
@[simp] theorem gsC_ap (g : Tgt) (r : Tgts) (x : PyData) (xs : List PyData) (e : Env) : gsC g r (x :: xs) e = (g x e).bind (r xs) := rfl
@[simp] theorem gT_ap (n : Nat) (g : Tgts) (ds : List PyData) (e : Env) : gT n g (.tuple ds) e = if ds.length = n then g ds e else none := rfl
/-! comprehensions -/
@[simp] theorem wipeE_nil (e : Env) : wipeE e [] = e := rfl
@[simp] theorem wipeE_cons (e : Env) (v : Nat) (vs : List Nat) : wipeE e (v :: vs) = (wipeE e vs).set v .no := rfl
@[simp] theorem vYes_ap (e : Env) : vYes e = .ok true := rfl
@[simp] theorem noE_ok' {α : Type} (a : α) : noE (.ok a) = .ok a := rfl
theorem vComp_ap (it : IT) (g : Tgt) (t : FT) (elt : FO) (vs : List Nat) (e : Env) : vComp it g t elt vs e = (it e).bind fun items => cIf (items.length ≤ 16777216) ((compL g t elt (wipeE e vs) items).bind fun ys => .ok (.own ys)) .bad := rfl
/-- one turn of a comprehension, the test passed -/
def turnC (g : Tgt) (t : FT) (elt : FO) (e : Env) (x : PyData) : Res (Option SV) := match g x e with
  | none => .bad
  | some e1 => (t e1).bind fun b => if b = true then (elt e1).bind fun y => .ok (some y) else .ok none
theorem compL_ap {g : Tgt} {t : FT} {elt : FO} {e : Env} {F : PyData → Option PyData} : ∀ {items : List PyData}, (∀ x ∈ items, ∃ o : Option SV, turnC g t elt e x = .ok o ∧ (o.map SV.frz) = (F x).map some) → ∃ ys, compL g t elt e items = .ok ys ∧ SV.frzs ys = some (items.filterMap F)
  | [], _ => ⟨[], rfl, rfl⟩
  | x :: items, h => by
    obtain ⟨ys, h1, h2⟩ := compL_ap (items := items) fun y m => h y (List.mem_cons_of_mem _ m)
    obtain ⟨o, k1, k2⟩ := h x List.mem_cons_self
    unfold turnC at k1
    show ∃ ys, (match g x e with | none => Res.bad | some e1 => (noE (t e1)).bind fun b => if b = true then (noE (elt e1)).bind fun y => (compL g t elt e items).bind fun ys => .ok (y :: ys) else compL g t elt e items) = .ok ys ∧ _
    cases z : g x e with
    | none => rw [z] at k1; cases k1
    | some e1 =>
      rw [z] at k1
      dsimp only at k1 ⊢
      cases zt : t e1 with
      | err c => rw [zt] at k1; cases k1
      | bad => rw [zt] at k1; cases k1
      | ok b =>
        rw [zt] at k1
        rw [noE_ok', bind_ok]
        rw [bind_ok] at k1
        cases b with
        | false =>
          rw [if_neg Bool.false_ne_true] at k1 ⊢
          cases k1
          refine ⟨ys, h1, ?_⟩
          cases zF : F x with
          | none => rw [h2, List.filterMap_cons_none zF]
          | some y => rw [zF] at k2; cases k2
        | true =>
          rw [if_pos rfl] at k1 ⊢
          cases ze : elt e1 with
          | err c => rw [ze] at k1; cases k1
          | bad => rw [ze] at k1; cases k1
          | ok y =>
            rw [ze, bind_ok] at k1
            cases k1
            rw [noE_ok', bind_ok, h1, bind_ok]
            refine ⟨y :: ys, rfl, ?_⟩
            cases zF : F x with
            | none => rw [zF] at k2; cases k2
            | some p =>
              rw [zF] at k2
              have k3 : SV.frz y = some p := Option.some.inj k2
              rw [List.filterMap_cons_some zF]
              show (match SV.frz y, SV.frzs ys with | some p, some ps => some (p :: ps) | _, _ => none) = _
              rw [k3, h2]
/-- a comprehension's value, frozen -/
theorem comp_fr {it : IT} {g : Tgt} {t : FT} {elt : FO} {vs : List Nat} {e : Env} {items : List PyData} (F : PyData → Option PyData) (hi : it e = .ok items) (hl : items.length ≤ 16777216)
    (h : ∀ x ∈ items, ∃ o : Option SV, turnC g t elt (wipeE e vs) x = .ok o ∧ (o.map SV.frz) = (F x).map some) : (vComp it g t elt vs e).bind frF = .ok (.d (.list (items.filterMap F))) := by
  obtain ⟨ys, h1, h2⟩ := compL_ap h
  rw [vComp_ap, hi, bind_ok, cIf_pos hl, h1, bind_ok, bind_ok]
  unfold frF
  show (match (SV.frzs ys).map (fun ps => FV.d (.list ps)) with | some x => Res.ok x | none => .bad) = _
  rw [h2]
  rfl
theorem frz_of_frF {s : SV} {p : PyData} (h : frF s = .ok (.d p)) : SV.frz s = some p := by
  have k := frz_frF s
  rw [h] at k
  cases z : s.frz with
  | none => rw [z] at k; cases k
  | some q => rw [z] at k; cases k; rfl
/-- without a test -/
theorem comp_map {it : IT} {g : Tgt} {elt : FO} {vs : List Nat} {e : Env} {items : List PyData} (F : PyData → PyData) (hi : it e = .ok items) (hl : items.length ≤ 16777216)
    (h : ∀ x ∈ items, ∃ e1, g x (wipeE e vs) = some e1 ∧ (elt e1).bind frF = .ok (.d (F x))) : (vComp it g vYes elt vs e).bind frF = .ok (.d (.list (items.map F))) := by
  rw [comp_fr (fun x => some (F x)) hi hl fun x m => ?_]
  · rw [List.filterMap_eq_map']
  · obtain ⟨e1, h1, h2⟩ := h x m
    cases z : elt e1 with
    | err c => rw [z] at h2; cases h2
    | bad => rw [z] at h2; cases h2
    | ok s =>
      rw [z] at h2
      refine ⟨some s, ?_, ?_⟩
      · unfold turnC
        rw [h1]
        dsimp only
        rw [vYes_ap, bind_ok, if_pos rfl, z, bind_ok]
      · rw [Option.map_some, Option.map_some, frz_of_frF h2]

/-! branches -/
@[simp] theorem ite_andThen (c : Prop) [Decidable c] (a b : Flow) (g : ST) : (if c then a else b).andThen g = if c then a.andThen g else b.andThen g := by split <;> rfl
@[simp] theorem ite_bind {α β : Type} (c : Prop) [Decidable c] (a b : Res α) (k : α → Res β) : (if c then a else b).bind k = if c then a.bind k else b.bind k := by split <;> rfl
@[simp] theorem ite_ofR {α : Type} (c : Prop) [Decidable c] (a b : Res α) (e : Env) (k : α → Flow) : ofR (if c then a else b) e k = if c then ofR a e k else ofR b e k := by split <;> rfl
@[simp] theorem fin_ite (c : Prop) [Decidable c] (a b : Flow) : fin (if c then a else b) = if c then fin a else fin b := by split <;> rfl
def ixS1 (ns : List Int) : PyData → Res FV
  | .int i => oI (atI ns i)
  | _ => .bad
@[simp] theorem ixS1_sc (ns : List Int) (i : Int) : ixS1 ns (.int i) = oI (atI ns i) := rfl
def ixS2 (r : Res PyData) : FV → Res FV
  | .sc ns => r.bind (ixS1 ns)
  | _ => .bad
@[simp] theorem ixS2_sc (r : Res PyData) (ns : List Int) : ixS2 r (.sc ns) = r.bind (ixS1 ns) := rfl
@[simp] theorem ixS_ap (f : FP) (g : FD) (e : Env) : ixS f g e = (f e).bind (ixS2 (g e)) := by
  unfold ixS
  refine bind_congr _ fun x => ?_
  cases x with
  | sc ns =>
    refine bind_congr _ fun y => ?_
    cases y with
    | int i =>
      show (match atI ns i with | some d => iI d | none => .bad) = oI (atI ns i)
      cases atI ns i <;> rfl
    | _ => rfl
  | _ => rfl
@[simp] theorem oI_some (i : Int) : oI (some i) = .ok (.d (.int i)) := rfl
def lenS1 : FV → Res FV
  | .sc ns => .ok (.d (.int ns.length))
  | _ => .bad
@[simp] theorem lenS1_sc (ns : List Int) : lenS1 (.sc ns) = .ok (.d (.int ns.length)) := rfl
@[simp] theorem vLenS_ap (f : FP) (e : Env) : vLenS f e = (f e).bind lenS1 := by
  unfold vLenS
  exact bind_congr _ fun x => by cases x <;> rfl
@[simp] theorem nth_0 {α : Type} (a : α) (r : List α) : (a :: r)[0]? = some a := rfl
@[simp] theorem nth_s {α : Type} (a : α) (r : List α) (i : Nat) : (a :: r)[i + 1]? = r[i]? := rfl
/-! tables -/
def tbl (p h f : Int) : FV := .ob "Table" [("prime", .int p), ("hands", .int h), ("few", .int f)]
@[simp] theorem tbl_p (p h f : Int) : fldP "Table" "prime" (tbl p h f) = .ok (.d (.int p)) := by rfl
@[simp] theorem tbl_h (p h f : Int) : fldP "Table" "hands" (tbl p h f) = .ok (.d (.int h)) := by rfl
@[simp] theorem tbl_f (p h f : Int) : fldP "Table" "few" (tbl p h f) = .ok (.d (.int f)) := by rfl
end VL

set_option Elab.async false
set_option linter.all false
set_option maxRecDepth 100000
set_option maxHeartbeats 4000000
namespace VL
open PySem PySem.Spec PyProof.Rows L2
/-! ### trees -/
def rdS : Option Slot → Option SV
  | some (.va s) => some s
  | some (.rf s) => some s
  | some (.vw s) => some s
  | _ => none
@[simp] theorem rdS_va (s : SV) : rdS (some (.va s)) = some s := rfl
@[simp] theorem rdS_rf (s : SV) : rdS (some (.rf s)) = some s := rfl
@[simp] theorem rdS_vw (s : SV) : rdS (some (.vw s)) = some s := rfl
@[simp] theorem rd_ap (e : Env) (i : Nat) : rd e i = rdS e[i]? := by
  unfold rd rdS
  rfl
def plO (i : Nat) : Option SV → Res Plc
  | some s => .ok (i, [], s)
  | none => .bad
@[simp] theorem plO_some (i : Nat) (s : SV) : plO i (some s) = .ok (i, [], s) := rfl
@[simp] theorem plN_ap (i : Nat) (e : Env) : plN i e = plO i (rd e i) := by
  unfold plN plO
  rfl
@[simp] theorem plX_ap (f : Env → Res Plc) (g : FD) (e : Env) : plX f g e = (f e).bind fun x => (g e).bind (plX1 x) := rfl
@[simp] theorem plF_ap (cn n : Str) (f : Env → Res Plc) (e : Env) : plF cn n f e = (f e).bind (plS (.fld cn n)) := rfl
@[simp] theorem plP_ap (f : Env → Res Plc) (e : Env) : plP f e = (f e).bind plP1 := rfl
@[simp] theorem plD_ap (f : Env → Res Plc) (e : Env) : plD f e = (f e).bind fun x => ldS x.2.2 := rfl
@[simp] theorem plL_ap (f : Env → Res Plc) (e : Env) : plL f e = (f e).bind plL1 := rfl
@[simp] theorem plX1_int (x : Plc) (k : Int) : plX1 x (.int k) = plS (.ix k) x := rfl
@[simp] theorem plP1_f (i : Nat) (ps : List Pst) (x : FV) : plP1 (i, ps, .f x) = .ok x := rfl
@[simp] theorem plL1_own (i : Nat) (ps : List Pst) (xs : List SV) : plL1 (i, ps, .own xs) = .ok (.d (.int xs.length)) := rfl
@[simp] theorem plL1_dl (i : Nat) (ps : List Pst) (ds : List PyData) : plL1 (i, ps, SV.dl ds) = .ok (.d (.int ds.length)) := by
  show Res.ok (FV.d (.int ((ds.map fun p => SV.f (.d p)).length : Nat))) = _
  rw [List.length_map]
theorem plS_dl (i : Nat) (ps : List Pst) (ds : List PyData) (k : Int) (p : PyData) (h : atI ds k = some p) : plS (.ix k) (i, ps, SV.dl ds) = .ok (i, ps ++ [.ix k], .f (.d p)) := by
  unfold plS
  show (match atI (ds.map fun p => SV.f (.d p)) k with | some t => Res.ok (i, ps ++ [Pst.ix k], t) | none => .bad) = _
  rw [atI_map, h]
  rfl
/-- lists of lists -/
def SV.dll (qs : List (List PyData)) : SV := .own (qs.map SV.dl)
theorem frzs_dll (qs : List (List PyData)) : SV.frzs (qs.map SV.dl) = some (qs.map .list) := by
  induction qs with
  | nil => rfl
  | cons q qs ih =>
    show (match SV.frz (SV.dl q), SV.frzs (qs.map SV.dl) with | some p, some ps => some (p :: ps) | _, _ => none) = _
    rw [frz_dl, ih]
    rfl
@[simp] theorem frF_dll (qs : List (List PyData)) : frF (SV.dll qs) = .ok (.d (.list (qs.map .list))) := by
  unfold frF
  show (match (SV.frzs (qs.map SV.dl)).map (fun ps => FV.d (.list ps)) with | some x => Res.ok x | none => .bad) = _
  rw [frzs_dll]
  rfl
theorem plS_dll (i : Nat) (ps : List Pst) (qs : List (List PyData)) (k : Int) (q : List PyData) (h : atI qs k = some q) : plS (.ix k) (i, ps, SV.dll qs) = .ok (i, ps ++ [.ix k], SV.dl q) := by
  unfold plS
  show (match atI (qs.map SV.dl) k with | some t => Res.ok (i, ps ++ [Pst.ix k], t) | none => .bad) = _
  rw [atI_map, h]
  rfl
theorem nil_dll : SV.dl [] = SV.dll [] := rfl
@[simp] theorem lstP_own (i : Nat) (ps : List Pst) (xs : List SV) : lstP (i, ps, .own xs) = .ok (i, ps, .own xs) := rfl
@[simp] theorem lstP_dl (i : Nat) (ps : List Pst) (ds : List PyData) : lstP (i, ps, SV.dl ds) = .ok (i, ps, SV.dl ds) := rfl
@[simp] theorem lstP_dll (i : Nat) (ps : List Pst) (ds : List (List PyData)) : lstP (i, ps, SV.dll ds) = .ok (i, ps, SV.dll ds) := rfl
@[simp] theorem dv_va (s : SV) : dv (.va s) = .va s := rfl
@[simp] theorem dv_rf (s : SV) : dv (.rf s) = .rf s := rfl
@[simp] theorem dv_vw (s : SV) : dv (.vw s) = .no := rfl
@[simp] theorem dv_no : dv .no = .no := rfl
@[simp] theorem free_dv (s : Slot) : free (dv s) = free s := by cases s <;> rfl
theorem tree_va {e : Env} {i : Nat} {s : SV} (h : e[i]? = some (.va s)) : tree e i = some (.va, s) := by unfold tree; rw [h]
theorem tree_rf {e : Env} {i : Nat} {s : SV} (h : e[i]? = some (.rf s)) : tree e i = some (.rf, s) := by unfold tree; rw [h]
/-! statements and effects -/
@[simp] theorem vSetI_ap (f : Env → Res Plc) (g : FD) (h : FO) (e : Env) : vSetI f g h e = ofR (h e) e fun s => ofR ((f e).bind lstP) e fun x => ofR (g e) e fun k => setI1 e x s k := rfl
@[simp] theorem setI_dl {e : Env} {i : Nat} {ds : List PyData} {k : Int} {p : PyData} (h : e[i]? = some (.va (SV.dl ds))) (h0 : 0 ≤ k) (h1 : k < ds.length) : setI1 e (i, [], SV.dl ds) (.f (.d p)) (.int k) = .nx ((e.map dv).set i (.va (SV.dl (ds.set k.toNat p)))) := by
  show (match ixN (ds.map fun p => SV.f (.d p)).length k with | some j => (match putP e (i, [], SV.dl ds) ((ds.map fun p => SV.f (.d p)).set j (.f (.d p))) with | some e => Flow.nx e | none => .bad) | none => .bad) = _
  have hx : ixN (ds.map fun p => SV.f (.d p)).length k = some k.toNat := by
    unfold ixN
    rw [if_pos h0, if_pos (by rw [List.length_map]; exact h1)]
  rw [hx]
  dsimp only
  unfold putP
  rw [tree_va h]
  show Flow.nx ((e.map dv).set i (.va (.own ((ds.map fun p => SV.f (.d p)).set k.toNat (.f (.d p)))))) = _
  rw [show (ds.map fun p => SV.f (.d p)).set k.toNat (.f (.d p)) = (ds.set k.toNat p).map fun p => SV.f (.d p) from (List.map_set ..).symm]
  rfl
@[simp] theorem obind_ok {α β : Type} (a : α) (e : Env) (k : α → Env → Out β) : (Out.ok a e).bind k = k a e := rfl
@[simp] theorem obind_err {α β : Type} (c : Str) (k : α → Env → Out β) : (Out.err c : Out α).bind k = .err c := rfl
@[simp] theorem oR_ok {α β : Type} (a : α) (k : α → Out β) : oR (.ok a) k = k a := rfl
@[simp] theorem oR_err {α β : Type} (c : Str) (k : α → Out β) : oR (.err c : Res α) k = .err c := rfl
@[simp] theorem ofO_ok {α : Type} (a : α) (e env : Env) (k : α → Env → Flow) : ofO (.ok a e) env k = k a e := rfl
@[simp] theorem ofO_err {α : Type} (c : Str) (env : Env) (k : α → Env → Flow) : ofO (.err c : Out α) env k = .err c (env.map keepF) := rfl
@[simp] theorem vEx_ap (f : FE) (e : Env) : vEx f e = ofO (f e) e fun _ e => .nx e := rfl
@[simp] theorem vSetE_ap (i : Nat) (f : FE) (e : Env) : vSetE i f e = ofO (f e) e fun s e => setS e i (.va s) := rfl
@[simp] theorem vRetE_ap (f : FE) (e : Env) : vRetE f e = ofO (f e) e fun s e => .rt s e := rfl
@[simp] theorem eO_ap (f : FO) (e : Env) : eO f e = oR (f e) fun s => .ok s e := rfl
@[simp] theorem vApp_ap (f : Env → Res Plc) (g : FO) (e : Env) : vApp f g e = oR ((f e).bind lstP) fun x => oR (g e) fun s => vApp1 e x s := rfl
@[simp] theorem app_dl {e : Env} {i : Nat} {ds : List PyData} {p : PyData} (h : e[i]? = some (.va (SV.dl ds))) (hl : ds.length < 16777216) : vApp1 e (i, [], SV.dl ds) (.f (.d p)) = .ok (.f (.d .none)) ((e.map dv).set i (.va (SV.dl (ds ++ [p])))) := by
  show cIf ((ds.map fun p => SV.f (.d p)).length < 16777216) (oE (.f (.d .none)) (putP e (i, [], SV.dl ds) ((ds.map fun p => SV.f (.d p)) ++ [.f (.d p)]))) .bad = _
  rw [cIf_pos (by rw [List.length_map]; exact hl)]
  unfold putP
  rw [tree_va h]
  show Out.ok (SV.f (.d .none)) ((e.map dv).set i (.va (.own ((ds.map fun p => SV.f (.d p)) ++ [.f (.d p)])))) = _
  rw [show (ds.map fun p => SV.f (.d p)) ++ [SV.f (.d p)] = (ds ++ [p]).map fun p => SV.f (.d p) by rw [List.map_append]; rfl]
  rfl
@[simp] theorem app_dll {e : Env} {i : Nat} {ds : List (List PyData)} {p : List PyData} (h : e[i]? = some (.va (SV.dll ds))) (hl : ds.length < 16777216) : vApp1 e (i, [], SV.dll ds) (SV.dl p) = .ok (.f (.d .none)) ((e.map dv).set i (.va (SV.dll (ds ++ [p])))) := by
  show cIf ((ds.map SV.dl).length < 16777216) (oE (.f (.d .none)) (putP e (i, [], SV.dll ds) ((ds.map SV.dl) ++ [SV.dl p]))) .bad = _
  rw [cIf_pos (by rw [List.length_map]; exact hl)]
  unfold putP
  rw [tree_va h]
  show Out.ok (SV.f (.d .none)) ((e.map dv).set i (.va (.own ((ds.map SV.dl) ++ [SV.dl p])))) = _
  rw [show (ds.map SV.dl) ++ [SV.dl p] = (ds ++ [p]).map SV.dl by rw [List.map_append]; rfl]
  rfl
theorem vFrz_va {e : Env} {i : Nat} {s : SV} {x : FV} (h : e[i]? = some (.va s)) (hf : frF s = .ok x) : vFrz i [] e = .nx (e.set i (.va (.f x))) := by
  unfold vFrz frzE
  rw [tree_va h]
  dsimp only
  have hz : s.frz? = some x := by
    unfold frF at hf
    cases z : s.frz? with
    | none => rw [z] at hf; cases hf
    | some y => rw [z] at hf; cases hf; rfl
  simp [subS, updS, hz, Kind.mk]
def fzA (i : Nat) (e : Env) : Res FV → Flow
  | .ok x => .nx (e.set i (.va (.f x)))
  | _ => .bad
@[simp] theorem fzA_ok (i : Nat) (e : Env) (x : FV) : fzA i e (.ok x) = .nx (e.set i (.va (.f x))) := rfl
def fzB (i : Nat) (e : Env) : Option Slot → Flow
  | some (.va s) => fzA i e (frF s)
  | some (.rf s) => (match frF s with | .ok x => .nx (e.set i (.rf (.f x))) | _ => .bad)
  | _ => .bad
@[simp] theorem fzB_va (i : Nat) (e : Env) (s : SV) : fzB i e (some (.va s)) = fzA i e (frF s) := rfl
@[simp] theorem vFrz_ap (i : Nat) (e : Env) : vFrz i [] e = fzB i e e[i]? := by
  unfold vFrz frzE tree fzB fzA frF
  cases e[i]? with
  | none => rfl
  | some sl =>
    cases sl with
    | no => rfl
    | vw _ => rfl
    | va s => simp only [subS]; cases s.frz? <;> rfl
    | rf s => simp only [subS]; cases s.frz? <;> rfl
@[simp] theorem vRetV_va (i : Nat) (e : Env) (s : SV) (h : e[i]? = some (.va s)) : vRetV i e = .rt s (e.set i .no) := by
  unfold vRetV; rw [h]
@[simp] theorem vDrop_ap (f : FO) (e : Env) : vDrop f e = ofR (f e) e fun _ => .nx e := rfl
theorem vTry_ap (L : List Str) (cn : Str) (body : ST) (i : Nat) (suite : Str → ST) (e : Env) : vTry L cn body i suite e = match body e with
  | .err c e => if L.contains c = true ∧ i < e.length then (if subE c cn = true then offI i (suite c (e.set i .no)) else .err c e) else .bad
  | r => r := rfl
@[simp] theorem ret_andThen {α : Type} (r : Res α) (e e' : Env) (k : α → SV) (g : ST) : (ofR r e fun a => Flow.rt (k a) e').andThen g = ofR r e fun a => Flow.rt (k a) e' := by cases r <;> rfl
/-! slices -/
def partI : PyData → Res (Option Int)
  | .int i => .ok (some i)
  | _ => .bad
@[simp] theorem partI_int (i : Int) : partI (.int i) = .ok (some i) := rfl
@[simp] theorem vNoPart_ap (e : Env) : vNoPart e = .ok none := rfl
@[simp] theorem vPart_ap (f : FD) (e : Env) : vPart f e = (f e).bind partI := by
  unfold vPart
  exact bind_congr _ fun x => by cases x <;> rfl
@[simp] theorem vSl_ap (f : FD) (lo hi : FI) (e : Env) : vSl f lo hi e = (f e).bind fun x => (lo e).bind fun l => (hi e).bind fun h => slP x l h := rfl
@[simp] theorem slP_l (ds : List PyData) (lo hi : Option Int) : slP (.list ds) lo hi = .ok (SV.dl (cutP ds lo hi)) := rfl
@[simp] theorem slP_t (ds : List PyData) (lo hi : Option Int) : slP (.tuple ds) lo hi = .ok (.f (.d (.tuple (cutP ds lo hi)))) := rfl
theorem sIx_pos (n d : Nat) {k : Int} (h : 0 ≤ k) : HT.sIx n d (some k) = min k.toNat n := by
  have := HT.sIx_nat n d k.toNat
  rwa [show ((k.toNat : Nat) : Int) = k by omega] at this
theorem cut_from {α : Type} (xs : List α) {a : Int} (h : 0 ≤ a) : cutP xs (some a) none = xs.drop a.toNat := by
  unfold cutP
  rw [sIx_pos _ _ h, HT.sIx_none]
  by_cases q : a.toNat ≤ xs.length
  · rw [Nat.min_eq_left q, List.take_of_length_le (by rw [List.length_drop]; omega)]
  · rw [Nat.min_eq_right (by omega), List.drop_of_length_le (Nat.le_refl _), List.drop_of_length_le (by omega)]
    simp
theorem cut_to {α : Type} (xs : List α) {b : Int} (h : 0 ≤ b) : cutP xs none (some b) = xs.take b.toNat := by
  unfold cutP
  rw [sIx_pos _ _ h, HT.sIx_none, List.drop_zero, Nat.sub_zero]
  by_cases q : b.toNat ≤ xs.length
  · rw [Nat.min_eq_left q]
  · rw [Nat.min_eq_right (by omega), List.take_of_length_le (Nat.le_refl _), List.take_of_length_le (by omega)]
theorem cut_mid {α : Type} (xs : List α) {a b : Int} (h : 0 ≤ a) (h' : 0 ≤ b) (hb : b.toNat ≤ xs.length) : cutP xs (some a) (some b) = (xs.take b.toNat).drop a.toNat := by
  unfold cutP
  rw [sIx_pos _ _ h, sIx_pos _ _ h', Nat.min_eq_left hb]
  by_cases q : a.toNat ≤ xs.length
  · rw [Nat.min_eq_left q, List.drop_take]
  · rw [Nat.min_eq_right (by omega), List.drop_of_length_le (Nat.le_refl _), List.drop_of_length_le (by rw [List.length_take]; omega)]
    simp
end VL

set_option Elab.async false
set_option linter.all false
set_option maxRecDepth 100000
set_option maxHeartbeats 4000000
namespace VL
open PySem PySem.Spec PyProof.Rows L2

/-! ### what the functions answer -/
/-- a cell of the script -/
def cellAt (ns : List Int) (k : Int) : Int := ns.getD k.toNat 0
@[simp] theorem run_cell (ns : List Int) (k : Int) (hk : 0 ≤ k) : run S__law_cell_at [.sc ns, .d (.int k)] = .ok (.d (.int (cellAt ns k))) := by
  unfold S__law_cell_at B__law_cell_at
  rw [run_mk]
  simp
  unfold cellAt
  split
  · rename_i h
    rw [atI_pos hk, List.getElem?_eq_getElem (by omega)]
    simp [show k.toNat < ns.length by omega]
  · rename_i h
    simp [List.getD, List.getElem?_eq_none (show ns.length ≤ k.toNat by omega)]
def mixM (c : Int) (k : Int) (m : Int) : Int := (c % 2147483647 + 12345) * (48271 + 6 * k) % 1000000007 / 7 % m
theorem mixM_lt (c k : Int) {m : Int} (h : 0 < m) : 0 ≤ mixM c k m ∧ mixM c k m < m := ⟨Int.emod_nonneg _ (by omega), Int.emod_lt_of_pos _ h⟩
@[simp] theorem run_mix (c k m : Int) (hm : 0 < m) : run S__law_mix [.d (.int c), .d (.int k), .d (.int m)] = .ok (.d (.int (mixM c k m))) := by
  unfold S__law_mix B__law_mix
  rw [run_mk]
  simp (disch := first | rfl | assumption | omega | simp)
  rfl
/-- a range's items -/
theorem rngP_map (lo : Int) (n : Nat) : rngP lo n = ((List.range n).map fun i : Nat => lo + (i : Int)).map .int := by
  unfold rngP; rw [List.map_map]; rfl
theorem rngP_length (lo : Int) (n : Nat) : (rngP lo n).length = n := by unfold rngP; simp
theorem rngP_mem {lo : Int} {n : Nat} {x : PyData} (h : x ∈ rngP lo n) : ∃ i : Nat, i < n ∧ x = .int (lo + i) := by
  unfold rngP at h
  obtain ⟨i, m, rfl⟩ := List.mem_map.mp h
  exact ⟨i, List.mem_range.mp m, rfl⟩
def unI : PyData → Int
  | .int i => i
  | _ => 0
@[simp] theorem unI_int (i : Int) : unI (.int i) = i := rfl
def numbersM (c : Int) (many : Nat) (m : Int) : List Int := (List.range many).map fun (k : Nat) => mixM c (3 * (k : Int)) m
@[simp] theorem run_numbers (c many m : Int) (hm : 0 < m) (h0 : 0 ≤ many) (hl : many ≤ 1000) : run S__law_numbers [.d (.int c), .d (.int many), .d (.int m)] = .ok (.d (.list ((numbersM c many.toNat m).map .int))) := by
  unfold S__law_numbers B__law_numbers
  rw [run_mk, vRet_ap, fin_ret]
  rw [comp_map (items := rngP 0 many.toNat) (fun x => .int (mixM c (3 * unI x) m))]
  · unfold numbersM rngP
    simp [Function.comp_def]
  · simp (disch := first | rfl | assumption | omega | simp)
  · rw [rngP_length]; omega
  · intro x hx
    obtain ⟨i, hi, rfl⟩ := rngP_mem hx
    refine ⟨_, gN_ap (t := .no) rfl rfl, ?_⟩
    simp (disch := first | rfl | assumption | omega | simp)
theorem numbersM_length (c : Int) (many : Nat) (m : Int) : (numbersM c many m).length = many := by unfold numbersM; simp
@[simp] theorem run_whole_i (i : Int) : run S__law_whole [.d (.int i)] = .ok (.d (.bool true)) := by
  unfold S__law_whole B__law_whole
  rw [run_mk]
  simp
theorem zip_ints : ∀ a b : List Int, zipP (a.map .int) (b.map .int) = (a.zip b).map fun x => .tuple [.int x.1, .int x.2]
  | [], _ => rfl
  | _ :: _, [] => rfl
  | x :: a, y :: b => by
    show PyData.tuple [.int x, .int y] :: zipP (a.map .int) (b.map .int) = _
    rw [zip_ints a b]; rfl
theorem row_loop (A B : Slot) : ∀ (a : List Int) (s2 s3 : Slot), free s2 = true → free s3 = true →
    ∃ t2 t3, forL (gT 2 (gsC (gN 2) (gsC (gN 3) gsN))) (vIfS (vOrT (vNotT (toT (frO (vCall S__law_whole (aC (vVar 2) aN))))) (toT (vCmp .ne (vVarD 2) (vVarD 3)))) (vRetP (vC (.bool false))) vSkip) ((a.zip a).map fun x => .tuple [.int x.1, .int x.2]) [A, B, s2, s3] = .nx [A, B, t2, t3]
  | [], s2, s3, _, _ => ⟨s2, s3, rfl⟩
  | x :: a, s2, s3, h2, h3 => by
    obtain ⟨t2, t3, e⟩ := row_loop A B a (.va (.f (.d (.int x)))) (.va (.f (.d (.int x)))) rfl rfl
    refine ⟨t2, t3, ?_⟩
    rw [List.zip_cons_cons, List.map_cons, forL_cons, tgt_some (e1 := [A, B, .va (.f (.d (.int x))), .va (.f (.d (.int x)))]) (by simp [h2, h3])]
    simp
    exact e
/-- a row that is as it should be -/
@[simp] theorem run_row (a : List Int) : run S__law_row [.d (.list (a.map .int)), .d (.list (a.map .int))] = .ok (.d (.bool true)) := by
  unfold S__law_row B__law_row
  rw [run_mk]
  obtain ⟨t2, t3, e⟩ := row_loop (.va (.f (.d (.list (a.map .int))))) (.va (.f (.d (.list (a.map .int))))) a .no .no rfl rfl
  simp
  rw [zip_ints, e]
  simp
/-- a table -/
structure Tb (p h f : Int) : Prop where
  pr : p ∈ ([5, 7, 11, 13, 17, 19, 23, 29, 31] : List Int)
  h3 : 3 ≤ h
  h7 : h ≤ 7
  hp : h < p
  f1 : 1 ≤ f
  f2 : f ≤ 2
  fh : 2 * f < h
theorem Tb.pos {p h f : Int} (t : Tb p h f) : 5 ≤ p ∧ p ≤ 31 := by
  have := t.pr
  simp only [List.mem_cons, List.not_mem_nil, or_false] at this
  omega
def runM (c : Str) (S : Fn) (xs : List FV) : Res FV := (outM (S (.rf (.obj c []) :: xs.map vaF))).bind frF
@[simp] theorem vMake_fr (c : Str) (S : Fn) (fs : Env → Res (List FV)) (e : Env) : (vMake c S fs e).bind frF = (fs e).bind (runM c S) := by
  unfold vMake runM
  rw [bind_assoc]
def finM : Flow → Res FV
  | .rt (.f (.d .none)) (.rf s :: _) => frF s
  | .nx (.rf s :: _) => frF s
  | .err c _ => .err c
  | _ => .bad
theorem runM_mk (c : Str) (nl : Nat) (body : ST) (xs : List FV) : runM c (mkFn nl body) xs = finM (body (.rf (.obj c []) :: (xs.map vaF ++ List.replicate nl .no))) := by
  unfold runM mkFn
  show (outM (match body (.rf (.obj c []) :: (xs.map vaF ++ List.replicate nl .no)) with | .rt s e => .ret s (backA _ e) | .nx e => .ret (.f (.d .none)) (backA _ e) | .err c _ => .exc c | .bad => .bad)).bind frF = _
  cases body (.rf (.obj c []) :: (xs.map vaF ++ List.replicate nl .no)) with
  | nx e =>
    cases e with
    | nil => rfl
    | cons s e => cases s <;> rfl
  | rt v e =>
    cases v with
    | f x =>
      cases x with
      | d p =>
        cases p with
        | none => cases e with
          | nil => rfl
          | cons s e => cases s <;> rfl
        | _ => cases e <;> rfl
      | _ => cases e <;> rfl
    | _ => cases e <;> rfl
  | err c e => rfl
  | bad => rfl
theorem run_table (p h f : Int) (t : Tb p h f) : runM "Table" S_Table___init__ [.d (.int p), .d (.int h), .d (.int f)] = .ok (tbl p h f) := by
  unfold S_Table___init__ B_Table___init__
  rw [runM_mk]
  have h1 := t.pr
  have h2 := t.h3
  have h3 := t.h7
  have h4 := t.hp
  have h5 := t.f1
  have h6 := t.f2
  have h7 := t.fh
  rw [vSeq_ap]
  rw [show (vIfS (vOrT (toT (vCmp .notin (vVarD 1) (toD (vC (.tuple (([5, 7, 11, 13, 17, 19, 23, 29, 31] : List Int).map .int)))))) (vOrT (vNotT (toT (vChain .le .le (toD (vC (.int 3))) (vVarD 2) (toD (vC (.int 7)))))) (toT (vCmp .ge (vVarD 2) (vVarD 1))))) (vRaise "BadTable") vSkip)
    (.rf (.obj "Table" []) :: ([FV.d (.int p), .d (.int h), .d (.int f)].map vaF ++ List.replicate 0 .no)) = .nx (.rf (.obj "Table" []) :: ([FV.d (.int p), .d (.int h), .d (.int f)].map vaF ++ List.replicate 0 .no)) from ?_]
  · rw [andThen_nx, vSeq_ap]
    rw [show (vIfS (vOrT (vNotT (toT (vChain .le .le (toD (vC (.int 1))) (vVarD 3) (toD (vC (.int 2)))))) (toT (vCmp .ge (frD (v2 mulV (toD (vC (.int 2))) (vVarD 3))) (vVarD 2)))) (vRaise "BadTable") vSkip)
      (.rf (.obj "Table" []) :: ([FV.d (.int p), .d (.int h), .d (.int f)].map vaF ++ List.replicate 0 .no)) = .nx (.rf (.obj "Table" []) :: ([FV.d (.int p), .d (.int h), .d (.int f)].map vaF ++ List.replicate 0 .no)) from ?_]
    · rfl
    · simp (disch := first | rfl | assumption | omega | simp) [h5, h6]
      omega
  · have hr : ∀ e : Env, e[1]? = some (.va (.f (.d (.int p)))) → vCmp .notin (vVarD 1) (toD (vC (.tuple (([5, 7, 11, 13, 17, 19, 23, 29, 31] : List Int).map .int)))) e = .ok (.d (.bool false)) := fun e he => by
      rw [vCmp_ap, vVarD_ap, he, ldD_va, ldS_f, bind_ok, toD_ap, vC_ap, bind_ok, dOf_d, bind_ok, cop_notin_tints, decide_eq_true h1]
      rfl
    rw [vIfS_ap, vOrT_ap, toT_ap, hr _ rfl]
    simp (disch := first | rfl | assumption | omega | simp) [h2, h3]
    omega
def tabP (c : Int) : Int := ([5, 7, 11, 13, 17, 19, 23, 29, 31] : List Int).getD (c % 9).toNat 0
def tabH (c : Int) : Int := 3 + c / 9 % ((if tabP c - 1 < 7 then tabP c - 1 else 7) - 2)
def tabF (c : Int) : Int := if 4 < tabH c ∧ c / 45 % 2 = 1 then 2 else 1
theorem tabP_at (c : Int) : atI ([.int 5, .int 7, .int 11, .int 13, .int 17, .int 19, .int 23, .int 29, .int 31] : List PyData) (c % 9) = some (.int (tabP c)) := by
  have h0 : 0 ≤ c % 9 := Int.emod_nonneg _ (by omega)
  have h9 : c % 9 < 9 := Int.emod_lt_of_pos _ (by omega)
  rw [atI_pos h0]
  unfold tabP
  have : (c % 9).toNat < 9 := by omega
  generalize (c % 9).toNat = k at this
  match k, this with
  | 0, _ => rfl
  | 1, _ => rfl
  | 2, _ => rfl
  | 3, _ => rfl
  | 4, _ => rfl
  | 5, _ => rfl
  | 6, _ => rfl
  | 7, _ => rfl
  | 8, _ => rfl
theorem tab_ok (c : Int) : Tb (tabP c) (tabH c) (tabF c) := by
  have hp : tabP c ∈ ([5, 7, 11, 13, 17, 19, 23, 29, 31] : List Int) := by
    unfold tabP
    have h0 : 0 ≤ c % 9 := Int.emod_nonneg _ (by omega)
    have h9 : c % 9 < 9 := Int.emod_lt_of_pos _ (by omega)
    have : (c % 9).toNat < 9 := by omega
    generalize (c % 9).toNat = k at this
    match k, this with
    | 0, _ => decide
    | 1, _ => decide
    | 2, _ => decide
    | 3, _ => decide
    | 4, _ => decide
    | 5, _ => decide
    | 6, _ => decide
    | 7, _ => decide
    | 8, _ => decide
  have h5 : 5 ≤ tabP c ∧ tabP c ≤ 31 := by
    simp only [List.mem_cons, List.not_mem_nil, or_false] at hp
    omega
  have hm : 0 < (if tabP c - 1 < 7 then tabP c - 1 else 7) - 2 := by split <;> omega
  have a1 : 3 ≤ tabH c := by
    unfold tabH
    have := Int.emod_nonneg (c / 9) (show (if tabP c - 1 < 7 then tabP c - 1 else 7) - 2 ≠ 0 by omega)
    omega
  have a2 : tabH c < 3 + ((if tabP c - 1 < 7 then tabP c - 1 else 7) - 2) := by
    unfold tabH
    have := Int.emod_lt_of_pos (c / 9) hm
    omega
  refine ⟨hp, a1, ?_, ?_, ?_, ?_, ?_⟩
  · split at a2 <;> omega
  · split at a2 <;> omega
  · unfold tabF; split <;> omega
  · unfold tabF; split <;> omega
  · unfold tabF; split <;> omega
@[simp] theorem run_table_by (c : Int) : run S__law_table_by [.d (.int c)] = .ok (tbl (tabP c) (tabH c) (tabF c)) := by
  unfold S__law_table_by B__law_table_by
  rw [run_mk]
  have hm : 0 < (if tabP c - 1 < 7 then tabP c - 1 else 7) - 2 := by
    have := (tab_ok c).pos
    split <;> omega
  have hq := run_table _ _ _ (tab_ok c)
  simp (disch := first | rfl | assumption | omega | simp) [tabP_at]
  unfold tabH tabF at hq
  unfold tabH tabF
  by_cases h1 : 4 < 3 + c / 9 % ((if tabP c - 1 < 7 then tabP c - 1 else 7) - 2)
  · by_cases h2 : c / 45 % 2 = 1
    · simpa [h1, h2, tabH] using hq
    · simpa [h1, h2, tabH] using hq
  · simpa [h1, tabH] using hq
end VL

set_option Elab.async false
set_option linter.all false
set_option maxRecDepth 100000
set_option maxHeartbeats 4000000
namespace VL
open PySem PySem.Spec PyProof.Rows L2

theorem emm (a b p : Int) : a % p * b % p = a * b % p := by rw [Int.mul_emod, Int.emod_emod_of_dvd _ (Int.dvd_refl p), ← Int.mul_emod]
/-- a loop's items, gone through -/
theorem map_rng (F : Int → Int) (lo : Int) (n : Nat) : (rngP lo n).map (fun x => PyData.int (F (unI x))) = ((List.range n).map fun (k : Nat) => F (lo + (k : Int))).map .int := by
  unfold rngP
  rw [List.map_map, List.map_map]
  rfl
/-! ### rows as polynomials -/
def peval : List Int → Int → Int
  | [], _ => 0
  | a :: r, x => a + x * peval r x
def hornP (p x : Int) (t : Int) (ns : List Int) : Int := ns.foldl (fun t n => (t * x + n) % p) t
theorem hornP_rev (p x : Int) : ∀ ns : List Int, hornP p x 0 ns.reverse = peval ns x % p
  | [] => by simp [hornP, peval]
  | a :: ns => by
    unfold hornP
    rw [List.reverse_cons, List.foldl_append]
    show (List.foldl (fun t n => (t * x + n) % p) 0 ns.reverse * x + a) % p = _
    have e : List.foldl (fun t n => (t * x + n) % p) 0 ns.reverse = peval ns x % p := hornP_rev p x ns
    rw [e]
    show (peval ns x % p * x + a) % p = (a + x * peval ns x) % p
    rw [Int.add_emod, emm, ← Int.add_emod, Int.add_comm, Int.mul_comm]
theorem Tb.mul {p h f : Int} (t : Tb p h f) {a : Int} (h0 : 0 ≤ a) (h1 : a < p) : -18446744073709551616 < a ∧ a < 18446744073709551616 := by
  have := t.pos; omega
theorem worth_loop (T R A : Slot) (p h f x : Int) (hp : 0 < p) (hp2 : p < 1000) : ∀ (ns : List Int) (t : Int) (s4 : Slot), free s4 = true → 0 ≤ t → t < p →
    ∃ t4, free t4 = true ∧ forL (gN 4) (vSet 3 (v2 modI (frD (v2 addV (frD (v2 mulV (vVarD 3) (vVarD 2))) (vVarD 4))) (toD (vFld "Table" "prime" (vVar 0))))) (ns.map .int) [.va (.f (tbl p h f)), R, .va (.f (.d (.int x))), .va (.f (.d (.int t))), s4]
      = .nx [.va (.f (tbl p h f)), R, .va (.f (.d (.int x))), .va (.f (.d (.int (hornP p x t ns)))), t4]
  | [], t, s4, h4, _, _ => ⟨s4, h4, rfl⟩
  | n :: ns, t, s4, h4, t0, t1 => by
    obtain ⟨t4, f4, e⟩ := worth_loop T R A p h f x hp hp2 ns ((t * x + n) % p) (.va (.f (.d (.int n)))) rfl (Int.emod_nonneg _ (by omega)) (Int.emod_lt_of_pos _ hp)
    refine ⟨t4, f4, ?_⟩
    rw [List.map_cons, forL_cons, tgt_some (gN_ap (t := s4) rfl h4)]
    simp (disch := first | rfl | assumption | omega | simp)
    exact e
@[simp] theorem run_worth (p h f x : Int) (ns : List Int) (hp : 0 < p) (hp2 : p < 1000) : run S_worth [tbl p h f, .d (.list (ns.map .int)), .d (.int x)] = .ok (.d (.int (peval ns x % p))) := by
  unfold S_worth B_worth
  rw [run_mk]
  obtain ⟨t4, f4, e⟩ := worth_loop .no (.va (.f (.d (.list (ns.map .int))))) .no p h f x hp hp2 ns.reverse 0 .no rfl (Int.le_refl _) hp
  rw [List.map_reverse] at e
  simp
  rw [e]
  simp [hornP_rev]
theorem lworth_loop (R : Slot) (p x : Int) (hp : 0 < p) (hp2 : p < 1000) : ∀ (ns : List Int) (t q : Int) (s5 : Slot), free s5 = true → 0 ≤ t → t < p → 0 ≤ q → q < p →
    ∃ t4 t5, forL (gN 5) (vSeq (vSet 3 (v2 modI (frD (v2 addV (vVarD 3) (frD (v2 mulV (vVarD 5) (vVarD 4))))) (vVarD 0)))
  (vSet 4 (v2 modI (frD (v2 mulV (vVarD 4) (vVarD 2))) (vVarD 0)))) (ns.map .int) [.va (.f (.d (.int p))), R, .va (.f (.d (.int x))), .va (.f (.d (.int t))), .va (.f (.d (.int q))), s5]
      = .nx [.va (.f (.d (.int p))), R, .va (.f (.d (.int x))), .va (.f (.d (.int ((t + q * peval ns x) % p)))), t4, t5]
  | [], t, q, s5, h5, t0, t1, q0, q1 => ⟨_, s5, by
    show Flow.nx _ = _
    rw [show peval [] x = 0 from rfl, Int.mul_zero, Int.add_zero, Int.emod_eq_of_lt t0 t1]⟩
  | n :: ns, t, q, s5, h5, t0, t1, q0, q1 => by
    obtain ⟨t4, t5, e⟩ := lworth_loop R p x hp hp2 ns ((t + n * q) % p) (q * x % p) (.va (.f (.d (.int n)))) rfl (Int.emod_nonneg _ (by omega)) (Int.emod_lt_of_pos _ hp) (Int.emod_nonneg _ (by omega)) (Int.emod_lt_of_pos _ hp)
    refine ⟨t4, t5, ?_⟩
    rw [List.map_cons, forL_cons, tgt_some (gN_ap (t := s5) rfl h5)]
    simp (disch := first | rfl | assumption | omega | simp)
    rw [e]
    have k : ((t + n * q) % p + q * x % p * peval ns x) % p = (t + q * peval (n :: ns) x) % p := by
      rw [Int.add_emod, Int.emod_emod_of_dvd _ (Int.dvd_refl p), emm, ← Int.add_emod]
      congr 1
      show _ = t + q * (n + x * peval ns x)
      grind
    rw [k]
@[simp] theorem run_lworth (p x : Int) (ns : List Int) (hp : 1 < p) (hp2 : p < 1000) : run S__law_worth [.d (.int p), .d (.list (ns.map .int)), .d (.int x)] = .ok (.d (.int (peval ns x % p))) := by
  unfold S__law_worth B__law_worth
  rw [run_mk]
  obtain ⟨t4, t5, e⟩ := lworth_loop (.va (.f (.d (.list (ns.map .int))))) p x (by omega) hp2 ns 0 1 .no rfl (Int.le_refl _) (by omega) (by omega) hp
  simp
  rw [e]
  simp
/-- what is dealt -/
def dealtM (p h n : Int) (ch : List Int) : List Int := (List.range h.toNat).map fun (k : Nat) => peval (n :: ch) (1 + (k : Int)) % p
@[simp] theorem run_dealt (p h f n : Int) (ch : List Int) (hp : 0 < p) (hp2 : p < 1000) (h0 : 0 ≤ h) (h1 : h < 1000) (hl : ch.length < 10000) : run S_dealt [tbl p h f, .d (.int n), .d (.list (ch.map .int))] = .ok (.d (.list ((dealtM p h n ch).map .int))) := by
  unfold S_dealt B_dealt
  rw [run_mk, vRet_ap, fin_ret]
  have hw := fun x => run_worth p h f x (n :: ch) hp hp2
  rw [comp_map (items := rngP 1 h.toNat) (fun x => .int (peval (n :: ch) (unI x) % p))]
  · rw [map_rng fun x => peval (n :: ch) x % p]
    rfl
  · simp (disch := first | rfl | assumption | omega | simp)
  · rw [rngP_length]; omega
  · intro x hx
    obtain ⟨i, hi, rfl⟩ := rngP_mem hx
    refine ⟨_, gN_ap (t := .no) rfl rfl, ?_⟩
    have hw := hw (1 + (i : Int))
    rw [List.map_cons] at hw
    simp (disch := first | rfl | assumption | omega | simp) [hw]
/-- the law's last word -/
theorem law_end {S : Fn} {x : FV} (h : run S [x] = .ok (.d (.bool true))) : ∃ a, S [.va (.f x)] = .ret (.f (.d (.bool true))) a := by
  unfold run at h
  cases z : S ([x].map vaF) with
  | ret s a =>
    rw [z] at h
    have h' : frF s = .ok (.d (.bool true)) := h
    cases s with
    | f y =>
      cases h'
      exact ⟨a, z⟩
    | own xs =>
      have h2 : (match (SV.frzs xs).map (fun ps => FV.d (.list ps)) with | some x => Res.ok x | none => .bad) = Res.ok (FV.d (.bool true)) := h'
      cases q : SV.frzs xs with
      | none => rw [q] at h2; cases h2
      | some ps => rw [q] at h2; cases h2
    | otup xs =>
      have h2 : (match (SV.frzs xs).map (fun ps => FV.d (.tuple ps)) with | some x => Res.ok x | none => .bad) = Res.ok (FV.d (.bool true)) := h'
      cases q : SV.frzs xs with
      | none => rw [q] at h2; cases h2
      | some ps => rw [q] at h2; cases h2
    | obj c fs =>
      have h2 : (match (SV.frzf fs).map (fun ps => FV.ob c ps) with | some x => Res.ok x | none => .bad) = Res.ok (FV.d (.bool true)) := h'
      cases q : SV.frzf fs with
      | none => rw [q] at h2; cases h2
      | some ps => rw [q] at h2; cases h2
  | exc c => rw [z] at h; cases h
  | bad => rw [z] at h; cases h
/-- the law -/
theorem run_law06 (ns : List Int) : run S_law_v5 [.sc ns] = .ok (.d (.bool true)) := by
  unfold S_law_v5 B_law_v5
  rw [run_mk]
  have t := tab_ok (cellAt ns 0)
  have tp := t.pos
  have t3 := t.h3
  have t7 := t.h7
  have f1 := t.f1
  have f2 := t.f2
  have hb := run_table_by (cellAt ns 0)
  generalize tabP (cellAt ns 0) = p at *
  generalize tabH (cellAt ns 0) = h at *
  generalize tabF (cellAt ns 0) = f at *
  have hl : (numbersM (cellAt ns 2) f.toNat p).length < 10000 := by rw [numbersM_length]; omega
  simp (disch := first | rfl | assumption | omega | simp) [hb]
  rw [comp_map (items := rngP 1 h.toNat) (fun x => .int (peval ((cellAt ns 1 % p) :: numbersM (cellAt ns 2) f.toNat p) (unI x) % p))]
  · rw [map_rng fun x => peval (cellAt ns 1 % p :: numbersM (cellAt ns 2) f.toNat p) x % p]
    rw [show ((List.range h.toNat).map fun (k : Nat) => peval (cellAt ns 1 % p :: numbersM (cellAt ns 2) f.toNat p) (1 + (k : Int)) % p) = dealtM p h (cellAt ns 1 % p) (numbersM (cellAt ns 2) f.toNat p) from rfl]
    simp
  · simp (disch := first | rfl | assumption | omega | simp)
  · rw [rngP_length]; omega
  · intro x hx
    obtain ⟨i, hi, rfl⟩ := rngP_mem hx
    refine ⟨_, gN_ap (t := .no) rfl rfl, ?_⟩
    have hw := run_lworth p (1 + (i : Int)) (cellAt ns 1 % p :: numbersM (cellAt ns 2) f.toNat p) (by omega) (by omega)
    rw [List.map_cons] at hw
    simp (disch := first | rfl | assumption | omega | simp) [hw]
theorem law06 : ∀ ns : List Int, ns.length ≤ 63 → ∃ a, S_law_v5 [.va (.f (.sc ns))] = .ret (.f (.d (.bool true))) a := fun ns _ => law_end (run_law06 ns)
end VL

set_option Elab.async false
set_option linter.all false
set_option maxRecDepth 100000
set_option maxHeartbeats 4000000
namespace VL
open PySem PySem.Spec PyProof.Rows L2

/-! ### loops by an invariant -/
def Flow.wp (f : Flow) (P : Env → Prop) : Prop := match f with
  | .nx e => P e
  | _ => False
@[simp] theorem wp_nx (e : Env) (P : Env → Prop) : (Flow.nx e).wp P = P e := rfl
@[simp] theorem wp_andThen (f : Flow) (g : ST) (P : Env → Prop) : (f.andThen g).wp P = f.wp fun e => (g e).wp P := by cases f <;> rfl
@[simp] theorem wp_ite (c : Prop) [Decidable c] (a b : Flow) (P : Env → Prop) : (if c then a else b).wp P = if c then a.wp P else b.wp P := by split <;> rfl
theorem wp_imp {f : Flow} {P Q : Env → Prop} (h : f.wp P) (k : ∀ e, P e → Q e) : f.wp Q := by
  cases f with
  | nx e => exact k e h
  | _ => exact h.elim
def oW (o : Option Env) (P : Env → Prop) : Prop := match o with
  | some e => P e
  | none => False
@[simp] theorem oW_some (e : Env) (P : Env → Prop) : oW (some e) P = P e := rfl
theorem wp_for {g : Tgt} {b : ST} {P : Env → Prop} (I : Nat → Env → Prop) : ∀ {items : List PyData} {e : Env}, I 0 e → (∀ i x e, items[i]? = some x → I i e → oW (g x e) fun e1 => (b e1).wp (I (i + 1))) → (∀ e, I items.length e → P e) → (forL g b items e).wp P := by
  intro items
  induction items generalizing I with
  | nil => intro e h0 _ hk; exact hk e h0
  | cons x items ih =>
    intro e h0 hs hk
    have h1 := hs 0 x e rfl h0
    rw [forL_cons]
    unfold tgt
    cases z : g x e with
    | none => rw [z] at h1; exact h1.elim
    | some e1 =>
      rw [z] at h1
      have h2 : (b e1).wp (I 1) := h1
      dsimp only
      rw [wp_andThen]
      refine wp_imp h2 fun e2 h3 => ?_
      exact ih (fun i => I (i + 1)) h3 (fun i y e hy hi => hs (i + 1) y e (by simpa using hy) hi) hk
theorem fin_wp {f : Flow} {k : ST} {R : Res FV} (h : f.wp fun e => fin (k e) = R) : fin (f.andThen k) = R := by
  cases f with
  | nx e => exact h
  | _ => exact h.elim
theorem rng_get {lo : Int} {n i : Nat} {x : PyData} (h : (rngP lo n)[i]? = some x) : i < n ∧ x = .int (lo + i) := by
  have hi : i < n := by rw [← rngP_length lo n]; exact (List.getElem?_eq_some_iff.mp h).1
  refine ⟨hi, ?_⟩
  unfold rngP at h
  rw [List.getElem?_map, List.getElem?_range hi] at h
  exact (Option.some.inj h).symm
theorem enum_get {ds : List PyData} {i : Nat} {x : PyData} (h : (enumP 0 ds)[i]? = some x) : ∃ d, ds[i]? = some d ∧ x = .tuple [.int i, d] := by
  rw [enumP_get] at h
  cases z : ds[i]? with
  | none => rw [z] at h; cases h
  | some d => rw [z] at h; rw [Nat.zero_add] at h; exact ⟨d, rfl, (Option.some.inj h).symm⟩
/-! ### the back of a number -/
def bkI (p n : Int) : Nat → Int
  | 0 => 1
  | k + 1 => bkI p n k * n % p
def bk (p n : Int) : Int := bkI p n (p - 2).toNat
theorem bkI_lt {p n : Int} (hp : 1 < p) : ∀ k, 0 ≤ bkI p n k ∧ bkI p n k < p
  | 0 => ⟨by show (0 : Int) ≤ 1; omega, hp⟩
  | k + 1 => ⟨Int.emod_nonneg _ (by omega), Int.emod_lt_of_pos _ (by omega)⟩
theorem bk_lt {p n : Int} (hp : 1 < p) : 0 ≤ bk p n ∧ bk p n < p := bkI_lt hp _
theorem run_back (p h f n : Int) (hp : 2 < p) (hp2 : p < 1000) (hn : n ≠ 0) (hn0 : 0 ≤ n) (hn1 : n < p) : run S_back [tbl p h f, .d (.int n)] = .ok (.d (.int (bk p n))) := by
  unfold S_back B_back
  rw [run_mk]
  simp (disch := first | rfl | assumption | omega | simp [*]) [hn]
  refine fin_wp (wp_for (fun i e => ∃ s, free s = true ∧ e = [.va (.f (tbl p h f)), .va (.f (.d (.int n))), .va (.f (.d (.int (bkI p n i)))), s]) ⟨.no, rfl, rfl⟩ ?_ ?_)
  · rintro i x e hx ⟨s, hs, rfl⟩
    have hb := bkI_lt (n := n) (show 1 < p by omega) i
    simp (disch := first | rfl | assumption | omega | simp [*]) [hs]
    rfl
  · rintro e ⟨s, hs, rfl⟩
    rw [rngP_length]
    simp
    rfl
theorem run_back0 (p h f : Int) : run S_back [tbl p h f, .d (.int 0)] = .err "Nought" := by
  unfold S_back B_back
  rw [run_mk]
  simp
theorem bk_all : ∀ p ∈ ([5, 7, 11, 13, 17, 19, 23, 29, 31] : List Int), ∀ n ∈ List.range 31, 0 < n → (n : Int) < p → bk p n * n % p = 1 := by decide +kernel
theorem bk_ok {p h f n : Int} (t : Tb p h f) (h0 : 0 < n) (h1 : n < p) : bk p n * n % p = 1 := by
  have tp := t.pos
  have := bk_all p t.pr n.toNat (List.mem_range.mpr (by omega)) (by omega) (by omega)
  rwa [show ((n.toNat : Nat) : Int) = n by omega] at this
theorem bk_pos {p h f n : Int} (t : Tb p h f) (h0 : 0 < n) (h1 : n < p) : 0 < bk p n := by
  have tp := t.pos
  have a := bk_lt (n := n) (show 1 < p by omega)
  have b := bk_ok t h0 h1
  rcases Int.lt_or_eq_of_le a.1 with q | q
  · exact q
  · rw [← q] at b
    simp at b
theorem drop_err {S : Fn} {fs : Env → Res (List FV)} {e : Env} {xs : List FV} {c : Str} (h : fs e = .ok xs) (r : run S xs = .err c) : vDrop (vCall S fs) e = .err c e := by
  unfold run at r
  rw [vDrop_ap]
  unfold vCall
  rw [h, bind_ok]
  cases z : outR (S (xs.map vaF)) with
  | ok s => rw [z] at r; have r' : frF s = .err c := r; unfold frF at r'; split at r' <;> cases r'
  | err c' => rw [z] at r; cases r; rfl
  | bad => rw [z] at r; cases r
theorem drop_ok {S : Fn} {fs : Env → Res (List FV)} {e : Env} {xs : List FV} {v : FV} (h : fs e = .ok xs) (r : run S xs = .ok v) : vDrop (vCall S fs) e = .nx e := by
  unfold run at r
  rw [vDrop_ap]
  unfold vCall
  rw [h, bind_ok]
  cases z : outR (S (xs.map vaF)) with
  | ok s => rfl
  | err c' => rw [z] at r; cases r
  | bad => rw [z] at r; cases r
/-! ### law k02 -/
theorem run_law02 (ns : List Int) : run S_law_v1 [.sc ns] = .ok (.d (.bool true)) := by
  unfold S_law_v1 B_law_v1
  rw [run_mk]
  have t := tab_ok (cellAt ns 0)
  have tp := t.pos
  have hb := run_table_by (cellAt ns 0)
  generalize tabP (cellAt ns 0) = p at *
  generalize tabH (cellAt ns 0) = h at *
  generalize tabF (cellAt ns 0) = f at *
  simp (disch := first | rfl | assumption | omega | simp [*]) [hb]
  refine fin_wp (wp_for (fun i e => ∃ s2 s3, free s2 = true ∧ free s3 = true ∧ e = [.va (.f (.sc ns)), .va (.f (tbl p h f)), s2, s3, .no]) ⟨.no, .no, rfl, rfl, rfl⟩ ?_ ?_)
  · rintro i x e hx ⟨s2, s3, h2, h3, rfl⟩
    obtain ⟨hi, rfl⟩ := rng_get hx
    have hk := run_back p h f (1 + (i : Int)) (by omega) (by omega) (by omega) (by omega) (by omega)
    have ho := bk_ok t (n := 1 + (i : Int)) (by omega) (by omega)
    have hl := bk_lt (p := p) (n := 1 + (i : Int)) (by omega)
    have hp := bk_pos t (n := 1 + (i : Int)) (by omega) (by omega)
    simp (disch := first | rfl | assumption | omega | simp [*]) [h2, h3, hk, ho, hl.2, hp]
  · rintro e ⟨s2, s3, h2, h3, rfl⟩
    have h0 := run_back0 p h f
    rw [vSeq_ap, vTry_ap, drop_err (xs := [tbl p h f, .d (.int 0)]) rfl h0]
    simp [offI, subE]
theorem law02 : ∀ ns : List Int, ns.length ≤ 63 → ∃ a, S_law_v1 [.va (.f (.sc ns))] = .ret (.f (.d (.bool true))) a := fun ns _ => law_end (run_law02 ns)
end VL

set_option Elab.async false
set_option linter.all false
set_option maxRecDepth 100000
set_option maxHeartbeats 4000000
namespace VL
open PySem PySem.Spec PyProof.Rows L2
/-! ### values that stay trees -/
def runO (S : Fn) (xs : List FV) : Res SV := outR (S (xs.map vaF))
theorem vCall_raw (S : Fn) (fs : Env → Res (List FV)) (e : Env) : vCall S fs e = (fs e).bind (runO S) := rfl
theorem run_runO (S : Fn) (xs : List FV) : run S xs = (runO S xs).bind frF := rfl
theorem frF_own (xs : List SV) : frF (.own xs) = match SV.frzs xs with | some ds => .ok (.d (.list ds)) | none => .bad := by
  unfold frF
  show (match (SV.frzs xs).map (fun ps => FV.d (.list ps)) with | some x => Res.ok x | none => .bad) = _
  cases SV.frzs xs <;> rfl
theorem frF_flat {s : SV} {p : PyData} (hp : flatP p = true) (h : frF s = .ok (.d p)) : s = .f (.d p) := by
  cases s with
  | f x => cases h; rfl
  | own xs =>
    rw [frF_own] at h
    cases z : SV.frzs xs with
    | none => rw [z] at h; cases h
    | some ds => rw [z] at h; cases h; cases hp
  | otup xs =>
    have h' : (match (SV.frzs xs).map (fun ps => FV.d (.tuple ps)) with | some x => Res.ok x | none => .bad) = Res.ok (.d p) := h
    cases z : SV.frzs xs with
    | none => rw [z] at h'; cases h'
    | some ds => rw [z] at h'; cases h'; cases hp
  | obj c fs =>
    have h' : (match (SV.frzf fs).map (fun ps => FV.ob c ps) with | some x => Res.ok x | none => .bad) = Res.ok (.d p) := h
    cases z : SV.frzf fs with
    | none => rw [z] at h'; cases h'
    | some ds => rw [z] at h'; cases h'
theorem runO_flat {S : Fn} {xs : List FV} {p : PyData} (hp : flatP p = true) (h : run S xs = .ok (.d p)) : runO S xs = .ok (.f (.d p)) := by
  rw [run_runO] at h
  cases z : runO S xs with
  | ok s => rw [z] at h; rw [frF_flat hp h]
  | err c => rw [z] at h; cases h
  | bad => rw [z] at h; cases h
theorem compL_dl {g : Tgt} {elt : FO} {e : Env} (F : PyData → PyData) : ∀ {items : List PyData}, (∀ x ∈ items, ∃ e1, g x e = some e1 ∧ elt e1 = .ok (.f (.d (F x)))) → compL g vYes elt e items = .ok ((items.map F).map fun p => .f (.d p))
  | [], _ => rfl
  | x :: items, h => by
    obtain ⟨e1, h1, h2⟩ := h x List.mem_cons_self
    show (match g x e with | none => Res.bad | some e1 => (noE (vYes e1)).bind fun b => if b = true then (noE (elt e1)).bind fun y => (compL g vYes elt e items).bind fun ys => .ok (y :: ys) else compL g vYes elt e items) = _
    rw [h1]
    dsimp only
    rw [vYes_ap, noE_ok', bind_ok, if_pos rfl, h2, noE_ok', bind_ok, compL_dl F fun y m => h y (List.mem_cons_of_mem _ m)]
    rfl
theorem comp_dl {it : IT} {g : Tgt} {elt : FO} {vs : List Nat} {e : Env} {items : List PyData} (F : PyData → PyData) (hi : it e = .ok items) (hl : items.length ≤ 16777216)
    (h : ∀ x ∈ items, ∃ e1, g x (wipeE e vs) = some e1 ∧ elt e1 = .ok (.f (.d (F x)))) : vComp it g vYes elt vs e = .ok (SV.dl (items.map F)) := by
  rw [vComp_ap, hi, bind_ok, cIf_pos hl, compL_dl F h, bind_ok]
  rfl
def finO : Flow → Res SV
  | .rt s _ => .ok s
  | .nx _ => .ok (.f (.d .none))
  | .err c _ => .err c
  | .bad => .bad
@[simp] theorem finO_rt (s : SV) (e : Env) : finO (.rt s e) = .ok s := rfl
@[simp] theorem finO_err (c : Str) (e : Env) : finO (.err c e) = .err c := rfl
theorem runO_mk (nl : Nat) (body : ST) (xs : List FV) : runO (mkFn nl body) xs = finO (body (xs.map vaF ++ List.replicate nl .no)) := by
  unfold runO mkFn
  cases body (xs.map vaF ++ List.replicate nl .no) <;> rfl
@[simp] theorem finO_ret (r : Res SV) (e : Env) : finO (ofR r e fun s => .rt s e) = r := by cases r <;> rfl
@[simp] theorem finO_ite (c : Prop) [Decidable c] (a b : Flow) : finO (if c then a else b) = if c then finO a else finO b := by split <;> rfl
theorem finO_wp {f : Flow} {k : ST} {R : Res SV} (h : f.wp fun e => finO (k e) = R) : finO (f.andThen k) = R := by
  cases f with
  | nx e => exact h
  | _ => exact h.elim
theorem run_ofO {S : Fn} {xs : List FV} {s : SV} {x : FV} (h : runO S xs = .ok s) (hs : frF s = .ok x) : run S xs = .ok x := by
  rw [run_runO, h, bind_ok, hs]
@[simp] theorem runO_numbers (c many m : Int) (hm : 0 < m) (h0 : 0 ≤ many) (hl : many ≤ 1000) : runO S__law_numbers [.d (.int c), .d (.int many), .d (.int m)] = .ok (SV.dl ((numbersM c many.toNat m).map .int)) := by
  unfold S__law_numbers B__law_numbers
  rw [runO_mk, vRet_ap, finO_ret]
  rw [comp_dl (items := rngP 0 many.toNat) (fun x => .int (mixM c (3 * unI x) m))]
  · unfold numbersM rngP
    simp [Function.comp_def]
  · simp (disch := first | rfl | assumption | omega | simp [*])
  · rw [rngP_length]; omega
  · intro x hx
    obtain ⟨i, hi, rfl⟩ := rngP_mem hx
    refine ⟨_, gN_ap (t := .no) rfl rfl, ?_⟩
    rw [vCall_raw]
    simp (disch := first | rfl | assumption | omega | simp [*])
    exact runO_flat rfl (run_mix c (3 * (i : Int)) m hm)
theorem tmp_fr {i : Nat} {f : FO} {e : Env} {s : SV} {x : FV} {p : PyData} (h : e[i]? = some (.va s)) (hf : frF s = .ok x) (hr : (f (e.set i (.va (.f x)))).bind frF = .ok (.d p)) (hp : flatP p = true) : (vTmp i [] f e).bind frF = .ok (.d p) := by
  have hz := vFrz_va h hf
  unfold vFrz at hz
  unfold vTmp
  cases z : frzE e i [] with
  | none => rw [z] at hz; cases hz
  | some e1 =>
    rw [z] at hz
    cases hz
    dsimp only
    cases q : f (e.set i (.va (.f x))) with
    | ok t =>
      rw [q] at hr
      have ht := frF_flat hp hr
      subst ht
      show ((flatR (SV.f (.d p))).bind frF) = _
      unfold flatR
      rw [if_pos (show flatS (SV.f (.d p)) = true from hp)]
      rfl
    | err c => rw [q] at hr; cases hr
    | bad => rw [q] at hr; cases hr
/-! ### law k03 -/
theorem run_law03 (ns : List Int) : run S_law_v2 [.sc ns] = .ok (.d (.bool true)) := by
  unfold S_law_v2 B_law_v2
  rw [run_mk]
  have t := tab_ok (cellAt ns 0)
  have tp := t.pos
  have hb := run_table_by (cellAt ns 0)
  generalize tabP (cellAt ns 0) = p at *
  generalize tabH (cellAt ns 0) = h at *
  generalize tabF (cellAt ns 0) = f at *
  have hm : 0 ≤ cellAt ns 2 % 13 ∧ cellAt ns 2 % 13 < 13 := ⟨Int.emod_nonneg _ (by omega), Int.emod_lt_of_pos _ (by omega)⟩
  have hl : (numbersM (cellAt ns 1) (cellAt ns 2 % 13).toNat p).length < 10000 := by rw [numbersM_length]; omega
  have hno := runO_numbers (cellAt ns 1) (cellAt ns 2 % 13) p (by omega) hm.1 (by omega)
  have e1 : vSet 1 (frO (vCall S__law_table_by (aC (frO (vCall S__law_cell_at (aC (vVar 0) (aC (vC (.int 0)) aN)))) aN))) ([FV.sc ns].map vaF ++ List.replicate 5 .no) = .nx [.va (.f (.sc ns)), .va (.f (tbl p h f)), .no, .no, .no, .no] := by
    simp (disch := first | rfl | assumption | omega | simp [*]) [hb]
  rw [vSeq_ap, e1, andThen_nx, vSeq_ap]
  have e2 : vSetO 2 (vCall S__law_numbers (aC (frO (vCall S__law_cell_at (aC (vVar 0) (aC (vC (.int 1)) aN)))) (aC (v2 modI (frD (vCall S__law_cell_at (aC (vVar 0) (aC (vC (.int 2)) aN)))) (toD (vC (.int 13)))) (aC (vFld "Table" "prime" (vVar 1)) aN)))) [.va (.f (.sc ns)), .va (.f (tbl p h f)), .no, .no, .no, .no]
      = .nx [.va (.f (.sc ns)), .va (.f (tbl p h f)), .va (SV.dl ((numbersM (cellAt ns 1) (cellAt ns 2 % 13).toNat p).map .int)), .no, .no, .no] := by
    rw [vSetO_ap, vCall_raw]
    simp (disch := first | rfl | assumption | omega | simp [*]) [hno]
  rw [e2, andThen_nx]
  generalize numbersM (cellAt ns 1) (cellAt ns 2 % 13).toNat p = row at *
  simp (disch := first | rfl | assumption | omega | simp [*])
  refine fin_wp (wp_for (fun i e => ∃ s4 s5, free s4 = true ∧ free s5 = true ∧ e = [.va (.f (.sc ns)), .va (.f (tbl p h f)), .va (SV.dl (row.map .int)), .va (.f (.d (.list (row.map .int)))), s4, s5]) ⟨.no, .no, rfl, rfl, rfl⟩ ?_ ?_)
  · rintro i x e hx ⟨s4, s5, h4, h5, rfl⟩
    obtain ⟨hi, rfl⟩ := rng_get hx
    have hw := run_worth p h f (0 + (i : Int)) row (by omega) (by omega)
    have hw2 := run_lworth p (0 + (i : Int)) row (by omega) (by omega)
    rw [gN_ap (t := s4) rfl h4, oW_some]
    rw [vSeq_ap, wp_andThen, vSet_ap, frO_ap, tmp_fr (s := SV.dl (row.map .int)) (x := .d (.list (row.map .int))) (p := .int (peval row (0 + (i : Int)) % p)) rfl (frF_dl _) ?_ rfl]
    · simp (disch := first | rfl | assumption | omega | simp [*]) [h5, hw2]
    · simp (disch := first | rfl | assumption | omega | simp [*]) [hw]
  · rintro e ⟨s4, s5, h4, h5, rfl⟩
    have hw := fun x r => run_worth p h f x r (by omega) (by omega)
    have hw2 := fun x r => run_lworth p x r (by omega) (by omega)
    have hlen : row.length < 16777216 := by omega
    have h5 := hw (cellAt ns 4 % p) (row ++ [1 + cellAt ns 3 % (p - 1)])
    have h6 := hw2 (cellAt ns 4 % p) (row ++ [1 + cellAt ns 3 % (p - 1)])
    rw [List.map_append] at h5 h6
    simp at h5 h6
    simp (disch := first | rfl | assumption | omega | simp [*]) [h5, h6]
theorem law03 : ∀ ns : List Int, ns.length ≤ 63 → ∃ a, S_law_v2 [.va (.f (.sc ns))] = .ret (.f (.d (.bool true))) a := fun ns _ => law_end (run_law03 ns)
end VL

set_option Elab.async false
set_option linter.all false
set_option maxRecDepth 100000
set_option maxHeartbeats 4000000
namespace VL
open PySem PySem.Spec PyProof.Rows L2

/-! ### products of rows -/
/-- all entries are numbers of the table -/
def Rng (p : Int) (F : List Int) : Prop := ∀ c ∈ F, 0 ≤ c ∧ c < p
theorem Rng.nth {p : Int} {F : List Int} (h : Rng p F) {i : Nat} {c : Int} (e : F[i]? = some c) : 0 ≤ c ∧ c < p := h c (List.mem_of_getElem? e)
theorem Rng.set {p : Int} {F : List Int} (h : Rng p F) {i : Nat} {c : Int} (hc : 0 ≤ c ∧ c < p) : Rng p (F.set i c) := fun d m => by
  rcases List.mem_or_eq_of_mem_set m with q | q
  · exact h d q
  · rw [q]; exact hc
theorem Rng.rep {p : Int} (hp : 0 < p) (n : Nat) : Rng p (List.replicate n 0) := fun d m => by
  rw [(List.mem_replicate.mp m).2]; omega
/-- congruence -/
def Cg (p a b : Int) : Prop := ∃ k, a = b + p * k
theorem Cg.refl (p a : Int) : Cg p a a := ⟨0, by omega⟩
theorem Cg.emod (p a : Int) : Cg p (a % p) a := ⟨-(a / p), by have := Int.emod_add_mul_ediv a p; grind⟩
theorem Cg.symm {p a b : Int} (h : Cg p a b) : Cg p b a := by obtain ⟨k, h⟩ := h; exact ⟨-k, by grind⟩
theorem Cg.trans {p a b c : Int} (h : Cg p a b) (h' : Cg p b c) : Cg p a c := by
  obtain ⟨k, h⟩ := h; obtain ⟨j, h'⟩ := h'; exact ⟨k + j, by grind⟩
theorem Cg.add {p a b c d : Int} (h : Cg p a b) (h' : Cg p c d) : Cg p (a + c) (b + d) := by
  obtain ⟨k, h⟩ := h; obtain ⟨j, h'⟩ := h'; exact ⟨k + j, by grind⟩
theorem Cg.mul {p a b c d : Int} (h : Cg p a b) (h' : Cg p c d) : Cg p (a * c) (b * d) := by
  obtain ⟨k, h⟩ := h; obtain ⟨j, h'⟩ := h'; exact ⟨b * j + k * d + p * k * j, by grind⟩
theorem Cg.mod_eq {p a b : Int} (h : Cg p a b) : a % p = b % p := by
  obtain ⟨k, h⟩ := h
  rw [h, Int.add_mul_emod_self_left]
theorem Cg.of_mod {p a b : Int} (h : a % p = b % p) : Cg p a b := (Cg.emod p a).symm.trans (by rw [h]; exact Cg.emod p b)
theorem Cg.eq {p a b : Int} (h : Cg p a b) (ha : 0 ≤ a ∧ a < p) (hb : 0 ≤ b ∧ b < p) : a = b := by
  have := h.mod_eq
  rwa [Int.emod_eq_of_lt ha.1 ha.2, Int.emod_eq_of_lt hb.1 hb.2] at this
/-- one entry changed -/
theorem peval_set (x : Int) : ∀ (F : List Int) (i : Nat) (c d : Int), F[i]? = some c → peval (F.set i d) x = peval F x + (d - c) * x ^ i
  | [], i, c, d, h => by simp at h
  | a :: F, 0, c, d, h => by
    have e : a = c := by simpa using h
    subst e
    show d + x * peval F x = a + x * peval F x + (d - a) * x ^ 0
    grind
  | a :: F, i + 1, c, d, h => by
    show a + x * peval (F.set i d) x = a + x * peval F x + (d - c) * x ^ (i + 1)
    rw [peval_set x F i c d (by simpa using h)]
    grind
theorem peval_rep (x : Int) : ∀ n, peval (List.replicate n 0) x = 0
  | 0 => rfl
  | n + 1 => by
    show 0 + x * peval (List.replicate n 0) x = 0
    rw [peval_rep x n]; grind
theorem peval_take (x : Int) : ∀ (R : List Int) (i : Nat) (c : Int), R[i]? = some c → peval (R.take (i + 1)) x = peval (R.take i) x + c * x ^ i
  | [], i, c, h => by simp at h
  | a :: R, 0, c, h => by
    have e : a = c := by simpa using h
    subst e
    show a + x * peval (R.take 0) x = 0 + a * x ^ 0
    rw [List.take_zero]
    show a + x * 0 = 0 + a * x ^ 0
    grind
  | a :: R, i + 1, c, h => by
    show a + x * peval (R.take (i + 1)) x = a + x * peval (R.take i) x + c * x ^ (i + 1)
    rw [peval_take x R i c (by simpa using h)]
    grind
theorem exO_wp {α : Type} {Q : α → Res SV → Prop} {f : Flow} {k : ST} (h : f.wp fun e => ∃ F, Q F (finO (k e))) : ∃ F, Q F (finO (f.andThen k)) := by
  cases f with
  | nx e => exact h
  | _ => exact h.elim
theorem ex_wp {α : Type} {Q : α → Res FV → Prop} {f : Flow} {k : ST} (h : f.wp fun e => ∃ F, Q F (fin (k e))) : ∃ F, Q F (fin (f.andThen k)) := by
  cases f with
  | nx e => exact h
  | _ => exact h.elim
/-- what product tells -/
structure Prd (p : Int) (R O F : List Int) : Prop where
  len : F.length = R.length + O.length - 1
  rng : Rng p F
  val : ∀ x, Cg p (peval F x) (peval R x * peval O x)
theorem run_product (p h f : Int) (R O : List Int) (hp : 0 < p) (hp2 : p < 1000) (hR : 0 < R.length) (hR2 : R.length < 1000) (hO : 0 < O.length) (hO2 : O.length < 1000) (rR : ∀ c ∈ R, -1000000 < c ∧ c < 1000000) (rO : ∀ c ∈ O, -1000000 < c ∧ c < 1000000) :
    ∃ F, run S_product [tbl p h f, .d (.list (R.map .int)), .d (.list (O.map .int))] = .ok (.d (.list (F.map .int))) ∧ Prd p R O F := by
  have key : ∃ F, runO S_product [tbl p h f, .d (.list (R.map .int)), .d (.list (O.map .int))] = .ok (SV.dl (F.map .int)) ∧ Prd p R O F := by
    unfold S_product B_product
    rw [runO_mk]
    have hz : vSetO 3 (v2 mulV (frD (vLst (vCons (toD (vC (.int 0))) vNil))) (toD (v2 maxI (toD (vC (.int 0))) (toD (v2 subI (frD (v2 addV (toD (v1 lenP (vVarD 1))) (toD (v1 lenP (vVarD 2))))) (toD (vC (.int 1))))))))
        ([tbl p h f, FV.d (.list (R.map .int)), .d (.list (O.map .int))].map vaF ++ List.replicate 5 .no) = .nx [.va (.f (tbl p h f)), .va (.f (.d (.list (R.map .int)))), .va (.f (.d (.list (O.map .int)))), .va (SV.dl ((List.replicate (R.length + O.length - 1) (0 : Int)).map .int)), .no, .no, .no, .no] := by
      have e1 : (if 0 < (R.length : Int) + (O.length : Int) - 1 then (R.length : Int) + (O.length : Int) - 1 else 0) = ((R.length + O.length - 1 : Nat) : Int) := by
        rw [if_pos (by omega)]; omega
      have e2 : (List.replicate (R.length + O.length - 1) [PyData.int 0]).flatten = (List.replicate (R.length + O.length - 1) (0 : Int)).map .int := by
        rw [List.map_replicate]
        generalize R.length + O.length - 1 = n
        induction n with
        | zero => rfl
        | succ n ih => rw [List.replicate_succ, List.flatten_cons, ih, List.replicate_succ]; rfl
      simp (disch := first | rfl | assumption | omega | simp [*]) [e1, -List.map_replicate]
      rw [if_pos (by omega), List.map_replicate]
      congr 2
      omega
    rw [vSeq_ap, hz, andThen_nx, vSeq_ap, vFor_ap]
    have hit : vItEnum (toD (vVar 1)) [.va (.f (tbl p h f)), .va (.f (.d (.list (R.map .int)))), .va (.f (.d (.list (O.map .int)))), .va (SV.dl ((List.replicate (R.length + O.length - 1) (0 : Int)).map .int)), .no, .no, .no, .no] = .ok (enumP 0 (R.map .int)) := by simp
    rw [hit, ofR_ok]
    refine exO_wp (Q := fun F r => r = .ok (SV.dl (F.map .int)) ∧ Prd p R O F) (wp_for (fun j e => ∃ F s4 s5 s6 s7, free s4 = true ∧ free s5 = true ∧ free s6 = true ∧ free s7 = true ∧
      e = [.va (.f (tbl p h f)), .va (.f (.d (.list (R.map .int)))), .va (.f (.d (.list (O.map .int)))), .va (SV.dl (F.map .int)), s4, s5, s6, s7] ∧ F.length = R.length + O.length - 1 ∧ Rng p F ∧ ∀ x, Cg p (peval F x) (peval (R.take j) x * peval O x)) ?_ ?_ ?_)
    · exact ⟨List.replicate (R.length + O.length - 1) 0, .no, .no, .no, .no, rfl, rfl, rfl, rfl, rfl, List.length_replicate, Rng.rep hp _, fun x => by
        rw [peval_rep, List.take_zero]
        show Cg p 0 (0 * peval O x)
        rw [Int.zero_mul]
        exact Cg.refl _ _⟩
    · rintro j x e hx ⟨F, s4, s5, s6, s7, h4, h5, h6, h7, rfl, hl, hr, hv⟩
      obtain ⟨d, hd, rfl⟩ := enum_get hx
      rw [List.getElem?_map] at hd
      cases hj : R[j]? with
      | none => rw [hj] at hd; cases hd
      | some c =>
        rw [hj] at hd
        cases hd
        have jl : j < R.length := (List.getElem?_eq_some_iff.mp hj).1
        simp (disch := first | rfl | assumption | omega | simp [*])
        refine wp_for (fun k e => ∃ F s6 s7, free s6 = true ∧ free s7 = true ∧
          e = [.va (.f (tbl p h f)), .va (.f (.d (.list (R.map .int)))), .va (.f (.d (.list (O.map .int)))), .va (SV.dl (F.map .int)), .va (.f (.d (.int j))), .va (.f (.d (.int c))), s6, s7] ∧ F.length = R.length + O.length - 1 ∧ Rng p F ∧ ∀ x, Cg p (peval F x) (peval (R.take j) x * peval O x + c * x ^ j * peval (O.take k) x)) ?_ ?_ ?_
        · exact ⟨F, s6, s7, h6, h7, rfl, hl, hr, fun x => by
            rw [List.take_zero]
            show Cg p _ (_ + c * x ^ j * 0)
            rw [Int.mul_zero, Int.add_zero]
            exact hv x⟩
        · rintro k y e hy ⟨F, s6, s7, h6, h7, rfl, hl, hr, hv⟩
          obtain ⟨d, hd2, rfl⟩ := enum_get hy
          rw [List.getElem?_map] at hd2
          cases hk : O[k]? with
          | none => rw [hk] at hd2; cases hd2
          | some b =>
            rw [hk] at hd2
            cases hd2
            have kl : k < O.length := (List.getElem?_eq_some_iff.mp hk).1
            have il : j + k < F.length := by omega
            have hF : F[j + k]? = some F[j + k] := List.getElem?_eq_getElem il
            have hat : atI (F.map PyData.int) ((j : Int) + (k : Int)) = some (.int F[j + k]) := by
              rw [atI_pos (by omega), show ((j : Int) + (k : Int)).toNat = j + k by omega, List.getElem?_map, hF]
              rfl
            have hpl := plS_dl 3 [] (F.map .int) ((j : Int) + (k : Int)) _ hat
            have rc := rR c (List.mem_of_getElem? hj)
            have rb := rO b (List.mem_of_getElem? hk)
            have lenF : ((F.map PyData.int).length : Int) = F.length := by rw [List.length_map]
            simp (disch := first | rfl | assumption | omega | simp [*]) [hpl]
            refine ⟨F.set (j + k) ((F[j + k] + c * b) % p), _, rfl, _, rfl, ⟨?_, rfl, rfl⟩, ?_, ?_, fun x => ?_⟩
            · rw [show ((j : Int) + (k : Int)).toNat = j + k by omega, ← List.map_set]
            · rw [List.length_set]; exact hl
            · exact hr.set ⟨Int.emod_nonneg _ (by omega), Int.emod_lt_of_pos _ hp⟩
            · rw [peval_set x F (j + k) _ _ hF, peval_take x O k b hk]
              obtain ⟨q, hq⟩ := hv x
              obtain ⟨m, hm⟩ := Cg.emod p (F[j + k] + c * b)
              exact ⟨q + m * x ^ (j + k), by rw [hm, hq]; grind⟩
        · rintro e ⟨F, s6, s7, h6, h7, rfl, hl, hr, hv⟩
          refine ⟨F, _, rfl, _, rfl, s6, h6, s7, h7, rfl, hl, hr, fun x => ?_⟩
          have hv := hv x
          rw [enumP_length, List.length_map, List.take_length] at hv
          rw [peval_take x R j c hj]
          obtain ⟨q, hq⟩ := hv
          exact ⟨q, by rw [hq]; grind⟩
    · rintro e ⟨F, s4, s5, s6, s7, h4, h5, h6, h7, rfl, hl, hr, hv⟩
      refine ⟨F, ?_, hl, hr, fun x => ?_⟩
      · rw [vRetV_va (s := SV.dl (F.map .int)) 3 _ rfl]
        rfl
      · have hv := hv x
        rw [enumP_length, List.length_map, List.take_length] at hv
        exact hv
  obtain ⟨F, h1, h2⟩ := key
  exact ⟨F, run_ofO h1 (frF_dl _), h2⟩
end VL

set_option Elab.async false
set_option linter.all false
set_option maxRecDepth 100000
set_option maxHeartbeats 4000000
namespace VL
open PySem PySem.Spec PyProof.Rows L2

/-! ### loops that may raise -/
def Flow.wx (f : Flow) (c : Str) (E : Prop) (P : Env → Prop) : Prop := match f with
  | .nx e => P e
  | .err d _ => d = c ∧ E
  | _ => False
@[simp] theorem wx_nx (e : Env) (c : Str) (E : Prop) (P : Env → Prop) : (Flow.nx e).wx c E P = P e := rfl
@[simp] theorem wx_err (d : Str) (e : Env) (c : Str) (E : Prop) (P : Env → Prop) : (Flow.err d e).wx c E P = (d = c ∧ E) := rfl
@[simp] theorem wx_andThen (f : Flow) (g : ST) (c : Str) (E : Prop) (P : Env → Prop) : (f.andThen g).wx c E P = f.wx c E fun e => (g e).wx c E P := by cases f <;> rfl
@[simp] theorem wx_ite (b : Prop) [Decidable b] (x y : Flow) (c : Str) (E : Prop) (P : Env → Prop) : (if b then x else y).wx c E P = if b then x.wx c E P else y.wx c E P := by split <;> rfl
theorem wx_imp {f : Flow} {c : Str} {E : Prop} {P Q : Env → Prop} (h : f.wx c E P) (k : ∀ e, P e → Q e) : f.wx c E Q := by
  cases f with
  | nx e => exact k e h
  | err d e => exact h
  | _ => exact h.elim
theorem wx_for {g : Tgt} {b : ST} {c : Str} {E : Prop} {P : Env → Prop} (I : Nat → Env → Prop) : ∀ {items : List PyData} {e : Env}, I 0 e → (∀ i x e, items[i]? = some x → I i e → oW (g x e) fun e1 => (b e1).wx c E (I (i + 1))) → (∀ e, I items.length e → P e) → (forL g b items e).wx c E P := by
  intro items
  induction items generalizing I with
  | nil => intro e h0 _ hk; exact hk e h0
  | cons x items ih =>
    intro e h0 hs hk
    have h1 := hs 0 x e rfl h0
    rw [forL_cons]
    unfold tgt
    cases z : g x e with
    | none => rw [z] at h1; exact h1.elim
    | some e1 =>
      rw [z] at h1
      have h2 : (b e1).wx c E (I 1) := h1
      dsimp only
      rw [wx_andThen]
      refine wx_imp h2 fun e2 h3 => ?_
      exact ih (fun i => I (i + 1)) h3 (fun i y e hy hi => hs (i + 1) y e (by simpa using hy) hi) hk
theorem fin_wx' {f : Flow} {k : ST} {c : Str} {E : Prop} {P : Env → Prop} {G : Res FV → Prop} (h : f.wx c E P) (h1 : E → G (.err c)) (h2 : ∀ e, P e → G (fin (k e))) : G (fin (f.andThen k)) := by
  cases f with
  | nx e => exact h2 e h
  | err d e => rw [h.1]; exact h1 h.2
  | _ => exact h.elim
theorem fin_wx {f : Flow} {k : ST} {c : Str} {E : Prop} {P : Env → Prop} (h : f.wx c E P) : (E ∧ fin (f.andThen k) = .err c) ∨ ∃ e, P e ∧ fin (f.andThen k) = fin (k e) := by
  cases f with
  | nx e => exact .inr ⟨e, h, rfl⟩
  | err d e => exact .inl ⟨h.2, by rw [h.1.symm]; rfl⟩
  | _ => exact h.elim
/-! ### rows through points -/
def ptsP (pts : List (Int × Int)) : List PyData := pts.map fun q => .tuple [.int q.1, .int q.2]
def DistX (pts : List (Int × Int)) : Prop := ∀ (j k : Nat) (q r : Int × Int), pts[j]? = some q → pts[k]? = some r → j ≠ k → q.1 ≠ r.1
structure Thr (p : Int) (pts : List (Int × Int)) (F : List Int) : Prop where
  len : F.length = pts.length
  rng : Rng p F
  val : ∀ q ∈ pts, Cg p (peval F q.1) q.2
/-- a factor that is nought at b -/
theorem lin_val (p b far x : Int) : Cg p (peval [-b * far % p, far] x) ((x - b) * far) := by
  show Cg p (-b * far % p + x * (far + x * 0)) _
  obtain ⟨k, hk⟩ := Cg.emod p (-b * far)
  exact ⟨k, by rw [hk]; grind⟩
/-- two rows added -/
def addD (p : Int) : PyData → PyData
  | .tuple [.int a, .int b] => .int ((a + b) % p)
  | _ => .none
def addM (p : Int) (F R : List Int) : List Int := (F.zip R).map fun x => (x.1 + x.2) % p
theorem addM_length (p : Int) (F R : List Int) : (addM p F R).length = min F.length R.length := by unfold addM; simp
theorem addM_rng {p : Int} (hp : 0 < p) (F R : List Int) : Rng p (addM p F R) := fun c m => by
  obtain ⟨x, _, rfl⟩ := List.mem_map.mp m
  exact ⟨Int.emod_nonneg _ (by omega), Int.emod_lt_of_pos _ hp⟩
theorem addM_val (p x : Int) : ∀ (F R : List Int), F.length = R.length → Cg p (peval (addM p F R) x) (peval F x + peval R x)
  | [], [], _ => Cg.refl _ _
  | [], _ :: _, h => by cases h
  | _ :: _, [], h => by cases h
  | a :: F, b :: R, h => by
    have ih := addM_val p x F R (by simpa using h)
    obtain ⟨m, hm⟩ := ih
    obtain ⟨k, hk⟩ := Cg.emod p (a + b)
    refine ⟨k + x * m, ?_⟩
    show (a + b) % p + x * peval (addM p F R) x = a + x * peval F x + (b + x * peval R x) + p * (k + x * m)
    rw [hm, hk]
    grind
theorem run_through (p h f : Int) (t : Tb p h f) (pts : List (Int × Int)) (hl : pts.length < 900) (hX : ∀ q ∈ pts, 0 ≤ q.1 ∧ q.1 < p) (hY : ∀ q ∈ pts, -1000000 < q.2 ∧ q.2 < 1000000) :
    (¬ DistX pts ∧ run S_through [tbl p h f, .d (.list (ptsP pts))] = .err "AlikePoints") ∨ (DistX pts ∧ ∃ F, run S_through [tbl p h f, .d (.list (ptsP pts))] = .ok (.d (.list (F.map .int))) ∧ Thr p pts F) := by
  have tp := t.pos
  unfold S_through B_through
  rw [run_mk]
  have hz : vSet 2 (frO (v2 mulV (frD (vLst (vCons (toD (vC (.int 0))) vNil))) (toD (v1 lenP (vVarD 1))))) ([tbl p h f, FV.d (.list (ptsP pts))].map vaF ++ List.replicate 9 .no)
      = .nx [.va (.f (tbl p h f)), .va (.f (.d (.list (ptsP pts)))), .va (.f (.d (.list ((List.replicate pts.length (0 : Int)).map .int)))), .no, .no, .no, .no, .no, .no, .no, .no] := by
    have hn : (ptsP pts).length = pts.length := by unfold ptsP; rw [List.length_map]
    simp (disch := first | rfl | assumption | omega | simp [*]) [hn]
  rw [vSeq_ap, hz, andThen_nx, vSeq_ap, vFor_ap]
  have hit : vItEnum (toD (vVar 1)) [.va (.f (tbl p h f)), .va (.f (.d (.list (ptsP pts)))), .va (.f (.d (.list ((List.replicate pts.length (0 : Int)).map .int)))), .no, .no, .no, .no, .no, .no, .no, .no] = .ok (enumP 0 (ptsP pts)) := by simp
  rw [hit, ofR_ok]
  obtain ⟨I, hI⟩ : ∃ I : Nat → Env → Prop, ∀ j e, I j e ↔ ∃ F s3 s4 s5 s6 s7 s8, (free s3 = true ∧ free s4 = true ∧ free s5 = true ∧ free s6 = true ∧ free s7 = true ∧ free s8 = true) ∧
      e = [.va (.f (tbl p h f)), .va (.f (.d (.list (ptsP pts)))), .va (.f (.d (.list (F.map .int)))), s3, s4, s5, s6, s7, s8, .no, .no] ∧ F.length = pts.length ∧ Rng p F ∧ (∀ (i : Nat) (q : Int × Int), pts[i]? = some q → Cg p (peval F q.1) (if i < j then q.2 else 0)) ∧ (∀ (i k : Nat) (q r : Int × Int), i < j → pts[i]? = some q → pts[k]? = some r → i ≠ k → q.1 ≠ r.1) := ⟨_, fun _ _ => Iff.rfl⟩
  refine fin_wx' (G := fun r => (¬ DistX pts ∧ r = .err "AlikePoints") ∨ (DistX pts ∧ ∃ F, r = .ok (.d (.list (F.map .int))) ∧ Thr p pts F)) (c := "AlikePoints") (E := ¬ DistX pts) (P := I pts.length) (wx_for I ?_ ?_ ?_) ?_ ?_
  · exact (hI _ _).mpr ⟨List.replicate pts.length 0, .no, .no, .no, .no, .no, .no, ⟨rfl, rfl, rfl, rfl, rfl, rfl⟩, rfl, List.length_replicate, Rng.rep (by omega) _, fun i q _ => by
      rw [peval_rep, if_neg (by omega)]
      exact Cg.refl _ _, fun i k q r hi => absurd hi (by omega)⟩
  · intro j x e hx hI1
    obtain ⟨F, s3, s4, s5, s6, s7, s8, ⟨h3, h4, h5, h6, h7, h8⟩, rfl, hl, hr, hv, hd⟩ := (hI _ _).mp hI1
    obtain ⟨d, hd1, rfl⟩ := enum_get hx
    unfold ptsP at hd1
    rw [List.getElem?_map] at hd1
    cases hj : pts[j]? with
    | none => rw [hj] at hd1; cases hd1
    | some q =>
      rw [hj] at hd1
      cases hd1
      have jl : j < pts.length := (List.getElem?_eq_some_iff.mp hj).1
      have qx := hX q (List.mem_of_getElem? hj)
      have qy := hY q (List.mem_of_getElem? hj)
      have a0 : ∀ a b : Int, atI ([.int a, .int b] : List PyData) 0 = some (.int a) := fun a b => rfl
      have a1 : ∀ a b : Int, atI ([.int a, .int b] : List PyData) 1 = some (.int b) := fun a b => rfl
      obtain ⟨J, hJ⟩ : ∃ J : Nat → Env → Prop, ∀ k e, J k e ↔ ∃ R s6 s7 s8, (free s6 = true ∧ free s7 = true ∧ free s8 = true) ∧
        e = [.va (.f (tbl p h f)), .va (.f (.d (.list (ptsP pts)))), .va (.f (.d (.list (F.map .int)))), .va (.f (.d (.int j))), .va (.f (.d (.tuple [.int q.1, .int q.2]))), .va (.f (.d (.list (R.map .int)))), s6, s7, s8, .no, .no] ∧ R.length = (if j < k then k else k + 1) ∧ (∀ c ∈ R, -1000000 < c ∧ c < 1000000) ∧ Cg p (peval R q.1) q.2 ∧ (∀ (i : Nat) (r : Int × Int), i < k → i ≠ j → pts[i]? = some r → Cg p (peval R r.1) 0 ∧ q.1 ≠ r.1) := ⟨_, fun _ _ => Iff.rfl⟩
      simp (disch := first | rfl | assumption | omega | simp [*]) [a0, a1]
      refine wx_for J ?_ ?_ ?_
      · exact (hJ _ _).mpr ⟨[q.2], s6, s7, s8, ⟨h6, h7, h8⟩, rfl, by rw [if_neg (by omega)]; rfl, fun c m => by
          have e : c = q.2 := by simpa using m
          rw [e]; exact qy, by
          show Cg p (q.2 + q.1 * 0) q.2
          rw [Int.mul_zero, Int.add_zero]
          exact Cg.refl _ _, fun i r hi => absurd hi (by omega)⟩
      · intro k y e hy hJ1
        obtain ⟨R, s6, s7, s8, ⟨h6, h7, h8⟩, rfl, lR, rR, vR, zR⟩ := (hJ _ _).mp hJ1
        obtain ⟨d, hd2, rfl⟩ := enum_get hy
        unfold ptsP at hd2
        rw [List.getElem?_map] at hd2
        cases hk : pts[k]? with
        | none => rw [hk] at hd2; cases hd2
        | some r =>
          rw [hk] at hd2
          cases hd2
          have kl : k < pts.length := (List.getElem?_eq_some_iff.mp hk).1
          have rx := hX r (List.mem_of_getElem? hk)
          by_cases hkj : (k : Int) = (j : Int)
          · have ekj : k = j := by omega
            subst ekj
            rw [hj] at hk
            cases hk
            simp (disch := first | rfl | assumption | omega | simp [*]) [a0, a1]
            exact (hJ _ _).mpr ⟨R, _, _, s8, ⟨rfl, rfl, h8⟩, rfl, by rw [lR, if_neg (by omega), if_pos (by omega)], rR, vR, fun i r hi hne hr => zR i r (by omega) hne hr⟩
          · by_cases he : r.1 = q.1
            · simp (disch := first | rfl | assumption | omega | simp [*]) [a0, a1, hkj, he]
              exact fun D => D k j r q hk hj (by omega) he
            · have hdf : 0 < (q.1 - r.1) % p ∧ (q.1 - r.1) % p < p := by
                have b1 := Int.emod_nonneg (q.1 - r.1) (show p ≠ 0 by omega)
                have b2 := Int.emod_lt_of_pos (q.1 - r.1) (show 0 < p by omega)
                refine ⟨?_, b2⟩
                rcases Int.lt_or_eq_of_le b1 with z | z
                · exact z
                · exfalso
                  obtain ⟨m, hm⟩ := Int.dvd_of_emod_eq_zero z.symm
                  have m0 : m = 0 := by
                    rcases Int.lt_trichotomy m 0 with w | w | w
                    · have : p * m ≤ p * (-1) := Int.mul_le_mul_of_nonneg_left (by omega) (by omega)
                      omega
                    · exact w
                    · have : p * 1 ≤ p * m := Int.mul_le_mul_of_nonneg_left (by omega) (by omega)
                      omega
                  rw [m0] at hm
                  omega
              have hb := run_back p h f ((q.1 - r.1) % p) (by omega) (by omega) (by omega) (by omega) hdf.2
              have bl := bk_lt (p := p) (n := (q.1 - r.1) % p) (by omega)
              have bo := bk_ok t hdf.1 hdf.2
              generalize bk p ((q.1 - r.1) % p) = far at *
              have Rl : 0 < R.length ∧ R.length < 1000 := by rw [lR]; split <;> omega
              have ol := Int.emod_nonneg (-r.1 * far) (show p ≠ 0 by omega)
              have ol2 := Int.emod_lt_of_pos (-r.1 * far) (show 0 < p by omega)
              obtain ⟨F', hF, pF⟩ := run_product p h f R [-r.1 * far % p, far] (by omega) (by omega) Rl.1 Rl.2 (by simp) (by simp) rR (fun c m => by
                simp only [List.mem_cons, List.not_mem_nil, or_false] at m
                rcases m with rfl | rfl
                · exact ⟨by omega, by omega⟩
                · exact ⟨by omega, by omega⟩)
              simp only [List.map_cons, List.map_nil] at hF
              have hb' : -18446744073709551616 < -r.1 ∧ -r.1 < 18446744073709551616 := ⟨by omega, by omega⟩
              simp (disch := first | rfl | assumption | omega | simp [*]) [a0, a1, hkj, he, hb, hF]
              refine (hJ _ _).mpr ⟨F', _, _, _, ⟨rfl, rfl, rfl⟩, rfl, ?_, fun c m => ?_, ?_, fun i r' hi hne hr' => ?_⟩
              · rw [pF.len, lR]
                show (if j < k then k else k + 1) + 2 - 1 = _
                split <;> split <;> omega
              · have := pF.rng c m; omega
              · refine (pF.val q.1).trans ((vR.mul (lin_val p r.1 far q.1)).trans ?_)
                obtain ⟨m1, e1⟩ := Cg.emod p (q.1 - r.1)
                obtain ⟨m2, e2⟩ := (Cg.of_mod (p := p) (a := far * ((q.1 - r.1) % p)) (b := 1) (by rw [bo, Int.emod_eq_of_lt (by omega) (by omega)]))
                refine ⟨q.2 * (m2 - far * m1), ?_⟩
                have e3 : q.1 - r.1 = (q.1 - r.1) % p - p * m1 := by omega
                rw [e3]
                have e4 : ((q.1 - r.1) % p - p * m1) * far = 1 + p * m2 - p * m1 * far := by grind
                rw [e4]
                grind
              · by_cases hik : i = k
                · subst hik
                  rw [hk] at hr'
                  cases hr'
                  refine ⟨(pF.val r.1).trans ?_, fun z => he z.symm⟩
                  obtain ⟨m, hm⟩ := lin_val p r.1 far r.1
                  exact ⟨peval R r.1 * m, by rw [hm]; grind⟩
                · obtain ⟨z1, z2⟩ := zR i r' (by omega) hne hr'
                  refine ⟨(pF.val r'.1).trans ?_, z2⟩
                  obtain ⟨m, hm⟩ := z1
                  exact ⟨m * peval [-r.1 * far % p, far] r'.1, by rw [hm]; grind⟩
      · intro e hJ1
        obtain ⟨R, s6, s7, s8, ⟨h6, h7, h8⟩, rfl, lR, rR, vR, zR⟩ := (hJ _ _).mp hJ1
        have hn : (enumP 0 (ptsP pts)).length = pts.length := by rw [enumP_length]; unfold ptsP; rw [List.length_map]
        rw [hn] at lR zR
        rw [if_pos jl] at lR
        rw [comp_map (items := zipP (F.map .int) (R.map .int)) (addD p)]
        · rw [zip_ints, List.map_map, show ((F.zip R).map (addD p ∘ fun x => PyData.tuple [.int x.1, .int x.2])) = (addM p F R).map .int by unfold addM; rw [List.map_map]; rfl, ofR_ok]
          simp
          refine (hI _ _).mpr ⟨addM p F R, _, _, _, _, _, _, ⟨rfl, rfl, rfl, h6, h7, h8⟩, rfl, ?_, addM_rng (by omega) F R, fun i q' hq' => ?_, fun i k q' r' hi h1 h2 hne => ?_⟩
          · rw [addM_length, hl, lR, Nat.min_self]
          · have v1 := hv i q' hq'
            have v2 := addM_val p q'.1 F R (by rw [hl, lR])
            refine v2.trans ?_
            by_cases hij : i = j
            · subst hij
              rw [hj] at hq'
              cases hq'
              rw [if_neg (by omega)] at v1
              rw [if_pos (by omega)]
              have := v1.add vR
              rwa [Int.zero_add] at this
            · have il : i < pts.length := (List.getElem?_eq_some_iff.mp hq').1
              have z := (zR i q' il hij hq').1
              have := v1.add z
              rw [Int.add_zero] at this
              by_cases hlt : i < j
              · rw [if_pos hlt] at this; rwa [if_pos (by omega)]
              · rw [if_neg hlt] at this; rwa [if_neg (by omega)]
          · by_cases hij : i = j
            · subst hij
              rw [hj] at h1
              cases h1
              exact (zR k r' (List.getElem?_eq_some_iff.mp h2).1 (Ne.symm hne) h2).2
            · exact hd i k q' r' (by omega) h1 h2 hne
        · simp
        · rw [zipP_length]; simp; omega
        · intro x hx
          rw [zip_ints] at hx
          obtain ⟨⟨a, b⟩, _, rfl⟩ := List.mem_map.mp hx
          refine ⟨[.va (.f (tbl p h f)), .va (.f (.d (.list (ptsP pts)))), .va (.f (.d (.list (F.map .int)))), .va (.f (.d (.int j))), .va (.f (.d (.tuple [.int q.1, .int q.2]))), .va (.f (.d (.list (R.map .int)))), s6, s7, s8, .va (.f (.d (.int a))), .va (.f (.d (.int b)))], by simp, ?_⟩
          simp (disch := first | rfl | assumption | omega | simp [*])
          rfl
  · intro e hI1
    have hn : (enumP 0 (ptsP pts)).length = pts.length := by rw [enumP_length]; unfold ptsP; rw [List.length_map]
    rwa [hn] at hI1
  · intro h; exact .inl ⟨h, rfl⟩
  · intro e hI1
    obtain ⟨F, s3, s4, s5, s6, s7, s8, ⟨h3, h4, h5, h6, h7, h8⟩, rfl, hl, hr, hv, hd⟩ := (hI _ _).mp hI1
    refine .inr ⟨fun j k q r h1 h2 hne => hd j k q r (List.getElem?_eq_some_iff.mp h1).1 h1 h2 hne, F, by simp, hl, hr, fun q m => ?_⟩
    obtain ⟨i, hi, e⟩ := List.getElem_of_mem m
    have h1 : pts[i]? = some q := by rw [List.getElem?_eq_getElem hi, e]
    have := hv i q h1
    rwa [if_pos hi] at this
end VL

set_option Elab.async false
set_option linter.all false
set_option maxRecDepth 100000
set_option maxHeartbeats 4000000
namespace VL
open PySem PySem.Spec PyProof.Rows L2

/-! ### no zero divisors -/
theorem nz_mul {p h f a b : Int} (t : Tb p h f) (ha : 0 < a ∧ a < p) (h0 : Cg p (a * b) 0) : Cg p b 0 := by
  have bo := bk_ok t ha.1 ha.2
  have tp := t.pos
  obtain ⟨m, hm⟩ := h0
  obtain ⟨k, hk⟩ := Cg.of_mod (p := p) (a := bk p a * a) (b := 1) (by rw [bo, Int.emod_eq_of_lt (by omega) (by omega)])
  refine ⟨bk p a * m - k * b, ?_⟩
  have e1 : bk p a * (a * b) = bk p a * (0 + p * m) := by rw [hm]
  have e2 : bk p a * (a * b) = (1 + p * k) * b := by rw [← Int.mul_assoc, hk]
  grind
theorem cg_small {p a : Int} (h : Cg p a 0) (h1 : -p < a) (h2 : a < p) : a = 0 := by
  obtain ⟨m, hm⟩ := h
  have m0 : m = 0 := by
    rcases Int.lt_trichotomy m 0 with w | w | w
    · have : p * m ≤ p * (-1) := Int.mul_le_mul_of_nonneg_left (by omega) (by omega)
      omega
    · exact w
    · have : p * 1 ≤ p * m := Int.mul_le_mul_of_nonneg_left (by omega) (by omega)
      omega
  rw [m0] at hm
  omega
/-! ### law k04 -/
def ptsM (ns : List Int) (p a0 far : Int) (many : Nat) : List (Int × Int) := (List.range many).map fun (k : Nat) => ((a0 + far * (k : Int)) % p, mixM (cellAt ns (3 + (k : Int))) k p)
theorem ptsM_length (ns : List Int) (p a0 far : Int) (many : Nat) : (ptsM ns p a0 far many).length = many := by unfold ptsM; simp
theorem ptsM_succ (ns : List Int) (p a0 far : Int) (many : Nat) : ptsM ns p a0 far (many + 1) = ptsM ns p a0 far many ++ [((a0 + far * (many : Int)) % p, mixM (cellAt ns (3 + (many : Int))) many p)] := by
  unfold ptsM
  rw [List.range_succ, List.map_append]
  rfl
theorem ptsP_append (a b : List (Int × Int)) : ptsP (a ++ b) = ptsP a ++ ptsP b := by unfold ptsP; rw [List.map_append]
theorem ptsP_length (a : List (Int × Int)) : (ptsP a).length = a.length := by unfold ptsP; rw [List.length_map]
theorem run_points (ns : List Int) (p h f : Int) (t : Tb p h f) (many : Int) (h0 : 0 ≤ many) (h1 : many < 100) :
    run S__law_points [.sc ns, tbl p h f, .d (.int many)] = .ok (.d (.list (ptsP (ptsM ns p (cellAt ns 1 % p) (1 + cellAt ns 2 % (p - 1)) many.toNat)))) := by
  have tp := t.pos
  have key : runO S__law_points [.sc ns, tbl p h f, .d (.int many)] = .ok (SV.dl (ptsP (ptsM ns p (cellAt ns 1 % p) (1 + cellAt ns 2 % (p - 1)) many.toNat))) := by
    unfold S__law_points B__law_points
    rw [runO_mk]
    generalize ha : cellAt ns 1 % p = a0
    generalize hf : 1 + cellAt ns 2 % (p - 1) = far
    have b0 : 0 ≤ a0 ∧ a0 < p := by rw [← ha]; exact ⟨Int.emod_nonneg _ (by omega), Int.emod_lt_of_pos _ (by omega)⟩
    simp (disch := first | rfl | assumption | omega | simp [*]) [ha, hf]
    obtain ⟨I, hI⟩ : ∃ I : Nat → Env → Prop, ∀ j e, I j e ↔ ∃ s6, free s6 = true ∧ e = [.va (.f (.sc ns)), .va (.f (tbl p h f)), .va (.f (.d (.int many))), .va (SV.dl (ptsP (ptsM ns p a0 far j))), .va (.f (.d (.int ((a0 + far * (j : Int)) % p)))), .va (.f (.d (.int far))), s6] := ⟨_, fun _ _ => Iff.rfl⟩
    refine finO_wp (wp_for I ?_ ?_ ?_)
    · refine (hI _ _).mpr ⟨.no, rfl, ?_⟩
      rw [show a0 + far * ((0 : Nat) : Int) = a0 by simp, Int.emod_eq_of_lt b0.1 b0.2]
      rfl
    · intro i x e hx hi1
      obtain ⟨s6, h6, rfl⟩ := (hI _ _).mp hi1
      obtain ⟨hi, rfl⟩ := rng_get hx
      have lp : (ptsP (ptsM ns p a0 far i)).length < 16777216 := by rw [ptsP_length, ptsM_length]; omega
      have hm := run_mix (cellAt ns (3 + (0 + (i : Int)))) (0 + (i : Int)) p (by omega)
      simp (disch := first | rfl | assumption | omega | simp [*]) [h6]
      refine (hI _ _).mpr ⟨.va (.f (.d (.int i))), rfl, ?_⟩
      rw [ptsM_succ, ptsP_append]
      have e1 : (a0 + far * (i : Int) + far) % p = (a0 + far * ((i + 1 : Nat) : Int)) % p := by
        congr 1
        rw [show ((i + 1 : Nat) : Int) = (i : Int) + 1 by omega]
        grind
      rw [e1]
      rfl
    · intro e hi1
      obtain ⟨s6, h6, rfl⟩ := (hI _ _).mp hi1
      rw [rngP_length]
      rw [vRetV_va (s := SV.dl (ptsP (ptsM ns p a0 far many.toNat))) 3 _ rfl]
      rfl
  exact run_ofO key (frF_dl _)
theorem ptsM_ok (ns : List Int) {p h f a0 far : Int} (t : Tb p h f) (hf : 0 < far ∧ far < p) (many : Nat) (hm : (many : Int) ≤ p) :
    (∀ q ∈ ptsM ns p a0 far many, (0 ≤ q.1 ∧ q.1 < p) ∧ (0 ≤ q.2 ∧ q.2 < p)) ∧ DistX (ptsM ns p a0 far many) := by
  have tp := t.pos
  have get : ∀ (j : Nat) (q : Int × Int), (ptsM ns p a0 far many)[j]? = some q → j < many ∧ q = ((a0 + far * (j : Int)) % p, mixM (cellAt ns (3 + (j : Int))) j p) := fun j q e => by
    have jl : j < many := by
      have := (List.getElem?_eq_some_iff.mp e).1
      rwa [ptsM_length] at this
    unfold ptsM at e
    rw [List.getElem?_map, List.getElem?_range jl] at e
    exact ⟨jl, (Option.some.inj e).symm⟩
  refine ⟨fun q m => ?_, fun j k q r e1 e2 hne he => ?_⟩
  · obtain ⟨k, _, rfl⟩ := List.mem_map.mp m
    exact ⟨⟨Int.emod_nonneg _ (by omega), Int.emod_lt_of_pos _ (by omega)⟩, mixM_lt _ _ (by omega)⟩
  · obtain ⟨jl, rfl⟩ := get j q e1
    obtain ⟨kl, rfl⟩ := get k r e2
    have c : Cg p (a0 + far * (j : Int)) (a0 + far * (k : Int)) := Cg.of_mod he
    obtain ⟨m, hm'⟩ := c
    have z := nz_mul t hf (b := (j : Int) - (k : Int)) ⟨m, by grind⟩
    have := cg_small z (by omega) (by omega)
    omega
theorem all_true (ds : List PyData) : (ds.map fun _ => PyData.bool true) = (ds.map fun _ => true).map .bool := by rw [List.map_map]; rfl
theorem allP_true {items : List PyData} {F : PyData → PyData} (h : ∀ x ∈ items, F x = .bool true) : allP (.list (items.map F)) = .ok (.d (.bool true)) := by
  have e : items.map F = (items.map fun _ => true).map .bool := by
    rw [List.map_map]
    exact List.map_congr_left fun x m => h x m
  rw [e, allP_bools]
  have : ((items.map fun _ => true).all id) = true := by rw [List.all_eq_true]; intro x m; obtain ⟨_, _, rfl⟩ := List.mem_map.mp m; rfl
  rw [this]
/-- so many truths -/
def allT (n : Nat) : PyData := .list ((List.replicate n true).map .bool)
@[simp] theorem allP_T (n : Nat) : allP (allT n) = .ok (.d (.bool true)) := by
  unfold allT
  rw [allP_bools]
  have : ((List.replicate n true).all id) = true := by rw [List.all_eq_true]; intro x m; rw [(List.mem_replicate.mp m).2]; rfl
  rw [this]
theorem comp_true {it : IT} {g : Tgt} {elt : FO} {vs : List Nat} {e : Env} {items : List PyData} (hi : it e = .ok items) (hl : items.length ≤ 16777216)
    (h : ∀ x ∈ items, ∃ e1, g x (wipeE e vs) = some e1 ∧ (elt e1).bind frF = .ok (.d (.bool true))) : (vComp it g vYes elt vs e).bind frF = .ok (.d (allT items.length)) := by
  rw [comp_map (fun _ => .bool true) hi hl h]
  unfold allT
  rw [List.map_replicate]
  congr 3
  clear h hl hi
  induction items with
  | nil => rfl
  | cons x items ih => rw [List.map_cons, ih]; rfl
@[simp] theorem all_tt {α : Type} (items : List α) : ((items.map fun _ => true).all id) = true := by
  rw [List.all_eq_true]; intro x m; obtain ⟨_, _, rfl⟩ := List.mem_map.mp m; rfl

theorem run_refused (p h f : Int) (t : Tb p h f) (pts : List (Int × Int)) (hl : pts.length < 900) (hX : ∀ q ∈ pts, 0 ≤ q.1 ∧ q.1 < p) (hY : ∀ q ∈ pts, -1000000 < q.2 ∧ q.2 < 1000000) (hd : ¬ DistX pts) :
    run S__law_refused [tbl p h f, .d (.list (ptsP pts))] = .ok (.d (.bool true)) := by
  unfold S__law_refused B__law_refused
  rw [run_mk]
  rcases run_through p h f t pts hl hX hY with ⟨_, h1⟩ | ⟨h1, _⟩
  · rw [vSeq_ap, vTry_ap, drop_err (xs := [tbl p h f, .d (.list (ptsP pts))]) rfl h1]
    simp [offI, subE]
  · exact absurd h1 hd
theorem notDist {pts : List (Int × Int)} {a b : List (Int × Int)} {q r : Int × Int} (he : pts = a ++ r :: b) (m : q ∈ a ++ b) (hx : q.1 = r.1) : ¬ DistX pts := fun D => by
  have hr : pts[a.length]? = some r := by rw [he]; simp
  rcases List.mem_append.mp m with m | m
  · obtain ⟨i, hi, e⟩ := List.getElem_of_mem m
    have hq : pts[i]? = some q := by rw [he, List.getElem?_append_left hi, List.getElem?_eq_getElem hi, e]
    exact D i a.length q r hq hr (by omega) hx
  · obtain ⟨i, hi, e⟩ := List.getElem_of_mem m
    have hq : pts[a.length + (i + 1)]? = some q := by
      rw [he, List.getElem?_append_right (by omega), show a.length + (i + 1) - a.length = i + 1 by omega, List.getElem?_cons_succ, List.getElem?_eq_getElem hi, e]
    exact D _ a.length q r hq hr (by omega) hx
theorem run_law04 (ns : List Int) : run S_law_v3 [.sc ns] = .ok (.d (.bool true)) := by
  unfold S_law_v3 B_law_v3
  rw [run_mk]
  have t := tab_ok (cellAt ns 0)
  have tp := t.pos
  have hb := run_table_by (cellAt ns 0)
  generalize tabP (cellAt ns 0) = p at *
  generalize tabH (cellAt ns 0) = h at *
  generalize tabF (cellAt ns 0) = f at *
  have hmin : (if p < 9 then p else 9) ≤ p ∧ 0 < (if p < 9 then p else 9) ∧ (if p < 9 then p else 9) ≤ 9 := by split <;> omega
  generalize hmn : cellAt ns 12 % (if p < 9 then p else 9) = many
  have m0 : 0 ≤ many := by rw [← hmn]; exact Int.emod_nonneg _ (by omega)
  have m1 : many < (if p < 9 then p else 9) := by rw [← hmn]; exact Int.emod_lt_of_pos _ hmin.2.1
  have hfar : 0 < 1 + cellAt ns 2 % (p - 1) ∧ 1 + cellAt ns 2 % (p - 1) < p := by
    have a := Int.emod_nonneg (cellAt ns 2) (show p - 1 ≠ 0 by omega)
    have b := Int.emod_lt_of_pos (cellAt ns 2) (show 0 < p - 1 by omega)
    omega
  have hp := run_points ns p h f t many m0 (by omega)
  obtain ⟨ok1, ok2⟩ := ptsM_ok ns (a0 := cellAt ns 1 % p) t hfar many.toNat (by omega)
  have len1 := ptsM_length ns p (cellAt ns 1 % p) (1 + cellAt ns 2 % (p - 1)) many.toNat
  generalize ptsM ns p (cellAt ns 1 % p) (1 + cellAt ns 2 % (p - 1)) many.toNat = pts at *
  have lenPts : (ptsP pts).length = many.toNat := by rw [ptsP_length]; exact len1
  have a0 : ∀ a b : Int, atI ([.int a, .int b] : List PyData) 0 = some (.int a) := fun a b => rfl
  have a1 : ∀ a b : Int, atI ([.int a, .int b] : List PyData) 1 = some (.int b) := fun a b => rfl
  by_cases hA : 0 < many ∧ cellAt ns 13 % 4 = 1
  · obtain ⟨hA1, hA2⟩ := hA
    have i0 := Int.emod_nonneg (cellAt ns 13 / 4) (show many ≠ 0 by omega)
    have i1 := Int.emod_lt_of_pos (cellAt ns 13 / 4) hA1
    have j0 := Int.emod_nonneg (cellAt ns 15) (show many + 1 ≠ 0 by omega)
    have j1 := Int.emod_lt_of_pos (cellAt ns 15) (show 0 < many + 1 by omega)
    have il : (cellAt ns 13 / 4 % many).toNat < pts.length := by omega
    have hat : atI (ptsP pts) (cellAt ns 13 / 4 % many) = some (.tuple [.int pts[(cellAt ns 13 / 4 % many).toNat].1, .int pts[(cellAt ns 13 / 4 % many).toNat].2]) := by
      rw [atI_pos i0]
      unfold ptsP
      rw [List.getElem?_map, List.getElem?_eq_getElem il]
      rfl
    have hq := List.getElem_mem il
    generalize pts[(cellAt ns 13 / 4 % many).toNat] = q at *
    have oq := ok1 q hq
    have y0 := Int.emod_nonneg (q.2 + cellAt ns 14 % 2) (show p ≠ 0 by omega)
    have y1 := Int.emod_lt_of_pos (q.2 + cellAt ns 14 % 2) (show 0 < p by omega)
    generalize hjj : cellAt ns 15 % (many + 1) = j at *
    have hr := run_refused p h f t (pts.take j.toNat ++ [(q.1, (q.2 + cellAt ns 14 % 2) % p)] ++ pts.drop j.toNat) (by simp; omega) (fun r m => by
      simp only [List.mem_append, List.mem_cons, List.not_mem_nil, or_false] at m
      rcases m with (m | rfl) | m
      · exact (ok1 r (List.mem_of_mem_take m)).1
      · exact oq.1
      · exact (ok1 r (List.mem_of_mem_drop m)).1) (fun r m => by
      simp only [List.mem_append, List.mem_cons, List.not_mem_nil, or_false] at m
      rcases m with (m | rfl) | m
      · have := (ok1 r (List.mem_of_mem_take m)).2; omega
      · exact ⟨by omega, by omega⟩
      · have := (ok1 r (List.mem_of_mem_drop m)).2; omega) (notDist (a := pts.take j.toNat) (b := pts.drop j.toNat) (q := q) (r := (q.1, (q.2 + cellAt ns 14 % 2) % p)) (by simp) (by rw [List.take_append_drop]; exact hq) rfl)
    rw [ptsP_append, ptsP_append] at hr
    have tk : ptsP (pts.take j.toNat) = (ptsP pts).take j.toNat := by unfold ptsP; rw [List.map_take]
    have dr : ptsP (pts.drop j.toNat) = (ptsP pts).drop j.toNat := by unfold ptsP; rw [List.map_drop]
    rw [tk, dr, List.append_assoc] at hr
    have l1 : ((ptsP pts).take j.toNat).length ≤ 100 := by rw [List.length_take]; omega
    have l2 : ((ptsP pts).drop j.toNat).length ≤ 100 := by rw [List.length_drop]; omega
    have hr' : run S__law_refused [tbl p h f, .d (.list ((ptsP pts).take j.toNat ++ .tuple [.int q.1, .int ((q.2 + cellAt ns 14 % 2) % p)] :: (ptsP pts).drop j.toNat))] = .ok (.d (.bool true)) := hr
    have ct := cut_to (ptsP pts) j0
    have cf := cut_from (ptsP pts) j0
    have l3 : ((ptsP pts).take j.toNat ++ [PyData.tuple [.int q.1, .int ((q.2 + cellAt ns 14 % 2) % p)]]).length + ((ptsP pts).drop j.toNat).length ≤ 16777216 := by simp; omega
    simp (disch := first | rfl | assumption | omega | simp [*]) [hb, hmn, hp, hA1, hA2, hat, a0, a1, hjj, ct, cf, hr']
  · rcases run_through p h f t pts (by omega) (fun q m => (ok1 q m).1) (fun q m => by have := (ok1 q m).2; omega) with ⟨nd, _⟩ | ⟨_, F, hF, th⟩
    · exact absurd ok2 nd
    · have hnA : ∀ {X : Prop} [Decidable X] {A B : Flow}, True := fun {_} _ {_ _} => trivial
      have fm : (F.length : Int) = many := by rw [th.len]; omega
      have fitP : fit 3 (.list (ptsP pts)) = true := by
        show (ptsP pts).all (fit 2) = true
        rw [List.all_eq_true]
        intro x m
        obtain ⟨q, _, rfl⟩ := List.mem_map.mp m
        rfl
      have hne := cop_ne 3 fitP fitP
      rcases (by omega : ¬ 0 < many ∨ (0 < many ∧ ¬ cellAt ns 13 % 4 = 1)) with hA1 | ⟨hA1, hA2⟩
      · simp (disch := first | rfl | assumption | omega | simp [*]) [hb, hmn, hp, hA1, hF, hne, fm]
        rw [comp_true (items := F.map .int)]
        · simp
          rw [comp_true (items := ptsP pts)]
          · simp
          · simp
          · omega
          · intro x hx
            obtain ⟨q, hq, rfl⟩ := List.mem_map.mp hx
            refine ⟨_, gN_ap (t := .no) rfl rfl, ?_⟩
            have hw := run_lworth p q.1 F (by omega) (by omega)
            have e := (th.val q hq).mod_eq
            have o := (ok1 q hq).2
            rw [Int.emod_eq_of_lt o.1 o.2] at e
            simp (disch := first | rfl | assumption | omega | simp [*]) [hw, a0, a1, e]
        · simp
        · rw [List.length_map]; omega
        · intro x hx
          obtain ⟨c, hc, rfl⟩ := List.mem_map.mp hx
          refine ⟨_, gN_ap (t := .no) rfl rfl, ?_⟩
          have r := th.rng c hc
          simp (disch := first | rfl | assumption | omega | simp [*]) [r.1, r.2]
      · simp (disch := first | rfl | assumption | omega | simp [*]) [hb, hmn, hp, hA1, hA2, hF, hne, fm]
        rw [comp_true (items := F.map .int)]
        · simp
          rw [comp_true (items := ptsP pts)]
          · simp
          · simp
          · omega
          · intro x hx
            obtain ⟨q, hq, rfl⟩ := List.mem_map.mp hx
            refine ⟨_, gN_ap (t := .no) rfl rfl, ?_⟩
            have hw := run_lworth p q.1 F (by omega) (by omega)
            have e := (th.val q hq).mod_eq
            have o := (ok1 q hq).2
            rw [Int.emod_eq_of_lt o.1 o.2] at e
            simp (disch := first | rfl | assumption | omega | simp [*]) [hw, a0, a1, e]
        · simp
        · rw [List.length_map]; omega
        · intro x hx
          obtain ⟨c, hc, rfl⟩ := List.mem_map.mp hx
          refine ⟨_, gN_ap (t := .no) rfl rfl, ?_⟩
          have r := th.rng c hc
          simp (disch := first | rfl | assumption | omega | simp [*]) [r.1, r.2]
theorem law04 : ∀ ns : List Int, ns.length ≤ 63 → ∃ a, S_law_v3 [.va (.f (.sc ns))] = .ret (.f (.d (.bool true))) a := fun ns _ => law_end (run_law04 ns)
end VL

set_option Elab.async false
set_option linter.all false
set_option maxRecDepth 100000
set_option maxHeartbeats 4000000
namespace VL
open PySem PySem.Spec PyProof.Rows L2

/-! ### all rows -/
def longer (p : Nat) (rows : List (List Int)) : List (List Int) := rows.flatMap fun r => (List.range p).map fun (n : Nat) => r ++ [(n : Int)]
def rowsM (p : Nat) : Nat → List (List Int)
  | 0 => [[]]
  | k + 1 => longer p (rowsM p k)
theorem longer_length (p : Nat) (rows : List (List Int)) : (longer p rows).length = rows.length * p := by
  unfold longer
  induction rows with
  | nil => simp
  | cons r rows ih => rw [List.flatMap_cons, List.length_append, ih, List.length_map, List.length_range, List.length_cons, Nat.succ_mul, Nat.add_comm]
theorem longer_append (p : Nat) (a b : List (List Int)) : longer p (a ++ b) = longer p a ++ longer p b := by unfold longer; rw [List.flatMap_append]
def rowsD (rows : List (List Int)) : List (List PyData) := rows.map fun r => r.map .int
theorem rowsD_append (a b : List (List Int)) : rowsD (a ++ b) = rowsD a ++ rowsD b := by unfold rowsD; rw [List.map_append]
theorem rowsD_length (a : List (List Int)) : (rowsD a).length = a.length := by unfold rowsD; rw [List.length_map]
def rowsP (rows : List (List Int)) : PyData := .list (rows.map fun r => .list (r.map .int))
theorem rowsD_list (rows : List (List Int)) : PyData.list ((rowsD rows).map .list) = rowsP rows := by
  unfold rowsD rowsP; rw [List.map_map]; rfl
theorem take_succ' {α : Type} {l : List α} {j : Nat} {a : α} (h : l[j]? = some a) : l.take (j + 1) = l.take j ++ [a] := by
  rw [List.take_succ, h]; rfl
theorem run_longer (rows : List (List Int)) (p : Int) (hp : 0 ≤ p) (hp2 : p < 1000) (hl : rows.length < 10000) (hr : ∀ r ∈ rows, r.length < 1000) :
    run S__law_longer [.d (rowsP rows), .d (.int p)] = .ok (.d (rowsP (longer p.toNat rows))) := by
  have key : runO S__law_longer [.d (rowsP rows), .d (.int p)] = .ok (SV.dll (rowsD (longer p.toNat rows))) := by
    unfold S__law_longer B__law_longer
    rw [runO_mk]
    obtain ⟨I, hI⟩ : ∃ I : Nat → Env → Prop, ∀ j e, I j e ↔ ∃ s3 s4, (free s3 = true ∧ free s4 = true) ∧ e = [.va (.f (.d (rowsP rows))), .va (.f (.d (.int p))), .va (SV.dll (rowsD (longer p.toNat (rows.take j)))), s3, s4] := ⟨_, fun _ _ => Iff.rfl⟩
    have hit : asL (rowsP rows) = .ok (rows.map fun r => .list (r.map .int)) := rfl
    simp (disch := first | rfl | assumption | omega | simp [*]) [hit]
    refine finO_wp (wp_for I ?_ ?_ ?_)
    · exact (hI _ _).mpr ⟨.no, .no, ⟨rfl, rfl⟩, rfl⟩
    · intro j x e hx h1
      obtain ⟨s3, s4, ⟨h3, h4⟩, rfl⟩ := (hI _ _).mp h1
      rw [List.getElem?_map] at hx
      cases hj : rows[j]? with
      | none => rw [hj] at hx; cases hx
      | some r =>
        rw [hj] at hx
        cases hx
        have rl := hr r (List.mem_of_getElem? hj)
        have jl : j < rows.length := (List.getElem?_eq_some_iff.mp hj).1
        have tl : (rows.take j).length ≤ 10000 := by rw [List.length_take]; omega
        obtain ⟨J, hJ⟩ : ∃ J : Nat → Env → Prop, ∀ k e, J k e ↔ ∃ s4, free s4 = true ∧ e = [.va (.f (.d (rowsP rows))), .va (.f (.d (.int p))), .va (SV.dll (rowsD (longer p.toNat (rows.take j) ++ (List.range k).map fun (n : Nat) => r ++ [(n : Int)]))), .va (.f (.d (.list (r.map .int)))), s4] := ⟨_, fun _ _ => Iff.rfl⟩
        simp (disch := first | rfl | assumption | omega | simp [*])
        refine wp_for J ?_ ?_ ?_
        · exact (hJ _ _).mpr ⟨s4, h4, by rw [List.range_zero, List.map_nil, List.append_nil]⟩
        · intro k y e hy h2
          obtain ⟨s4, h4, rfl⟩ := (hJ _ _).mp h2
          obtain ⟨hk, rfl⟩ := rng_get hy
          have ll : (rowsD (longer p.toNat (rows.take j) ++ (List.range k).map fun (n : Nat) => r ++ [(n : Int)])).length < 16777216 := by
            rw [rowsD_length, List.length_append, longer_length, List.length_map, List.length_range]
            have : (rows.take j).length * p.toNat ≤ 10000 * 1000 := Nat.mul_le_mul tl (by omega)
            omega
          have r2 : (r.map PyData.int).length + ([PyData.int (0 + (k : Int))] : List PyData).length ≤ 16777216 := by simp; omega
          rw [gN_ap (t := s4) rfl h4, oW_some]
          rw [vEx_ap, vApp_ap]
          have e1 : (plN 2 (List.set [.va (.f (.d (rowsP rows))), .va (.f (.d (.int p))), .va (SV.dll (rowsD (longer p.toNat (rows.take j) ++ (List.range k).map fun (n : Nat) => r ++ [(n : Int)]))), .va (.f (.d (.list (r.map .int)))), s4] 4 (.va (.f (.d (.int (0 + (k : Int)))))))).bind lstP = .ok (2, [], SV.dll (rowsD (longer p.toNat (rows.take j) ++ (List.range k).map fun (n : Nat) => r ++ [(n : Int)]))) := by simp
          rw [e1, oR_ok]
          simp (disch := first | rfl | assumption | omega | simp [*])
          refine (hJ _ _).mpr ⟨.va (.f (.d (.int k))), rfl, ?_⟩
          rw [List.range_succ, List.map_append, ← List.append_assoc, rowsD_append (longer p.toNat (rows.take j) ++ _)]
          simp [rowsD]
        · intro e h2
          obtain ⟨s4, h4, rfl⟩ := (hJ _ _).mp h2
          rw [rngP_length]
          refine (hI _ _).mpr ⟨.va (.f (.d (.list (r.map .int)))), s4, ⟨rfl, h4⟩, ?_⟩
          rw [take_succ' hj, longer_append]
          have : longer p.toNat [r] = (List.range p.toNat).map fun (n : Nat) => r ++ [(n : Int)] := by unfold longer; simp
          rw [this]
    · intro e h1
      obtain ⟨s3, s4, ⟨h3, h4⟩, rfl⟩ := (hI _ _).mp h1
      rw [List.length_map, List.take_length, vRetV_va (s := SV.dll (rowsD (longer p.toNat rows))) 2 _ rfl]
      rfl
  have h2 := run_ofO key (frF_dll _)
  rw [h2, rowsD_list]

theorem rowsM_length (p : Nat) : ∀ k, (rowsM p k).length = p ^ k
  | 0 => rfl
  | k + 1 => by show (longer p (rowsM p k)).length = _; rw [longer_length, rowsM_length p k, Nat.pow_succ]
theorem rowsM_mem (p : Nat) : ∀ k, ∀ r ∈ rowsM p k, r.length = k ∧ ∀ c ∈ r, 0 ≤ c ∧ c < (p : Int)
  | 0, r, m => by
    have e : r = [] := by simpa [rowsM] using m
    subst e
    exact ⟨rfl, fun c m => by cases m⟩
  | k + 1, r, m => by
    have m' : r ∈ longer p (rowsM p k) := m
    unfold longer at m'
    obtain ⟨q, hq, m2⟩ := List.mem_flatMap.mp m'
    obtain ⟨n, hn, rfl⟩ := List.mem_map.mp m2
    obtain ⟨a, b⟩ := rowsM_mem p k q hq
    have nl := List.mem_range.mp hn
    refine ⟨by simp [a], fun c mc => ?_⟩
    rcases List.mem_append.mp mc with z | z
    · exact b c z
    · have e : c = (n : Int) := by simpa using z
      rw [e]; omega
theorem run_all_rows (p few : Int) (hp : 0 ≤ p) (hp2 : p ≤ 31) (hf : few = 1 ∨ few = 2) :
    run S__law_all_rows [.d (.int p), .d (.int few)] = .ok (.d (rowsP (rowsM p.toNat few.toNat))) := by
  unfold S__law_all_rows B__law_all_rows
  rw [run_mk]
  obtain ⟨I, hI⟩ : ∃ I : Nat → Env → Prop, ∀ j e, I j e ↔ ∃ s3, free s3 = true ∧ e = [.va (.f (.d (.int p))), .va (.f (.d (.int few))), .va (.f (.d (rowsP (rowsM p.toNat j)))), s3] := ⟨_, fun _ _ => Iff.rfl⟩
  have h0 : -4611686018427387904 ≤ few ∧ few < 4611686018427387904 := by omega
  simp (disch := first | rfl | assumption | omega | simp [*])
  refine fin_wp (wp_for I ?_ ?_ ?_)
  · exact (hI _ _).mpr ⟨.no, rfl, rfl⟩
  · intro j x e hx h1
    obtain ⟨s3, h3, rfl⟩ := (hI _ _).mp h1
    obtain ⟨hj, rfl⟩ := rng_get hx
    have l1 : (rowsM p.toNat j).length < 10000 := by
      rw [rowsM_length]
      have : j = 0 ∨ j = 1 := by omega
      rcases this with rfl | rfl
      · simp
      · rw [Nat.pow_one]; omega
    have hr := run_longer (rowsM p.toNat j) p hp (by omega) l1 (fun r m => by have := (rowsM_mem _ _ r m).1; omega)
    simp (disch := first | rfl | assumption | omega | simp [*]) [hr]
    exact (hI _ _).mpr ⟨.va (.f (.d (.int j))), rfl, rfl⟩
  · intro e h1
    obtain ⟨s3, h3, rfl⟩ := (hI _ _).mp h1
    rw [rngP_length]
    simp
/-! ### counting -/
def seeM (p n : Int) (ch some_ : List Int) : List Int := some_.map fun hand => peval (n :: ch) hand % p
def cntM (p n : Int) (some_ due : List Int) (rows : List (List Int)) : Nat := (rows.map fun ch => if seeM p n ch some_ = due then 1 else 0).sum
theorem dealt_at (p h n : Int) (ch : List Int) (hand : Int) (h1 : 1 ≤ hand) (h2 : hand ≤ h) : atI ((dealtM p h n ch).map PyData.int) (hand - 1) = some (.int (peval (n :: ch) hand % p)) := by
  rw [atI_pos (by omega)]
  unfold dealtM
  rw [List.map_map, List.getElem?_map, List.getElem?_range (by omega)]
  show some (PyData.int (peval (n :: ch) (1 + (((hand - 1).toNat : Nat) : Int)) % p)) = _
  rw [show 1 + (((hand - 1).toNat : Nat) : Int) = hand by omega]
theorem run_counted (p h f n : Int) (t : Tb p h f) (some_ due : List Int) (hs : ∀ a ∈ some_, 1 ≤ a ∧ a ≤ h) (ls : some_.length < 100) :
    run S__law_counted [tbl p h f, .d (.int n), .d (.list (some_.map .int)), .d (.list (due.map .int))] = .ok (.d (.int (cntM p n some_ due (rowsM p.toNat f.toNat)))) := by
  have tp := t.pos
  have t3 := t.h3
  have t7 := t.h7
  have f1 := t.f1
  have f2 := t.f2
  unfold S__law_counted B__law_counted
  rw [run_mk]
  have ha := run_all_rows p f (by omega) (by omega) (by omega)
  have hit : asL (rowsP (rowsM p.toNat f.toNat)) = .ok ((rowsM p.toNat f.toNat).map fun r => .list (r.map .int)) := rfl
  have mem := rowsM_mem p.toNat f.toNat
  generalize rowsM p.toNat f.toNat = rows at *
  obtain ⟨I, hI⟩ : ∃ I : Nat → Env → Prop, ∀ j e, I j e ↔ ∃ s5 s6, (free s5 = true ∧ free s6 = true) ∧ e = [.va (.f (tbl p h f)), .va (.f (.d (.int n))), .va (.f (.d (.list (some_.map .int)))), .va (.f (.d (.list (due.map .int)))), .va (.f (.d (.int (cntM p n some_ due (rows.take j))))), s5, s6, .no] := ⟨_, fun _ _ => Iff.rfl⟩
  simp (disch := first | rfl | assumption | omega | simp [*]) [ha, hit]
  refine fin_wp (wp_for I ?_ ?_ ?_)
  · exact (hI _ _).mpr ⟨.no, .no, ⟨rfl, rfl⟩, rfl⟩
  · intro j x e hx h1
    obtain ⟨s5, s6, ⟨h5, h6⟩, rfl⟩ := (hI _ _).mp h1
    rw [List.getElem?_map] at hx
    cases hj : rows[j]? with
    | none => rw [hj] at hx; cases hx
    | some ch =>
      rw [hj] at hx
      cases hx
      have lc := (mem ch (List.mem_of_getElem? hj)).1
      have hd := run_dealt p h f n ch (by omega) (by omega) (by omega) (by omega) (by omega)
      simp (disch := first | rfl | assumption | omega | simp [*]) [hd]
      rw [comp_map (items := some_.map .int) (fun x => .int (peval (n :: ch) (unI x) % p))]
      · rw [List.map_map, show (some_.map ((fun x => PyData.int (peval (n :: ch) (unI x) % p)) ∘ PyData.int)) = (seeM p n ch some_).map .int by unfold seeM; rw [List.map_map]; rfl]
        by_cases hq : seeM p n ch some_ = due
        · simp (disch := first | rfl | assumption | omega | simp [*]) [hq]
          refine (hI _ _).mpr ⟨.va (.f (.d (.list (ch.map .int)))), .va (.f (.d (.list ((dealtM p h n ch).map .int)))), ⟨rfl, rfl⟩, ?_⟩
          rw [take_succ' hj]
          have e : cntM p n some_ due (rows.take j ++ [ch]) = cntM p n some_ due (rows.take j) + 1 := by
            unfold cntM
            rw [List.map_append, List.sum_append]
            simp [hq]
          rw [e]
          simp
        · simp (disch := first | rfl | assumption | omega | simp [*]) [hq]
          refine (hI _ _).mpr ⟨.va (.f (.d (.list (ch.map .int)))), .va (.f (.d (.list ((dealtM p h n ch).map .int)))), ⟨rfl, rfl⟩, ?_⟩
          rw [take_succ' hj]
          have e : cntM p n some_ due (rows.take j ++ [ch]) = cntM p n some_ due (rows.take j) := by
            unfold cntM
            rw [List.map_append, List.sum_append]
            simp [hq]
          rw [e]
      · simp
      · rw [List.length_map]; omega
      · intro x hx
        obtain ⟨a, m, rfl⟩ := List.mem_map.mp hx
        have ra := hs a m
        refine ⟨_, gN_ap (t := .no) rfl rfl, ?_⟩
        have da := dealt_at p h n ch a ra.1 ra.2
        simp (disch := first | rfl | assumption | omega | simp [*]) [da]
  · intro e h1
    obtain ⟨s5, s6, ⟨h5, h6⟩, rfl⟩ := (hI _ _).mp h1
    rw [List.length_map, List.take_length]
    simp
end VL

set_option Elab.async false
set_option linter.all false
set_option maxRecDepth 100000
set_option maxHeartbeats 4000000
namespace VL
open PySem PySem.Spec PyProof.Rows L2

/-! ### statement by statement -/
theorem step_nx {f g : ST} {e e' : Env} {R : Res FV} (h : f e = .nx e') (k : fin (g e') = R) : fin (vSeq f g e) = R := by
  rw [vSeq_ap, h]
  exact k
theorem step_wp {f g : ST} {e : Env} {P : Env → Prop} {R : Res FV} (h : (f e).wp P) (k : ∀ e', P e' → fin (g e') = R) : fin (vSeq f g e) = R := by
  rw [vSeq_ap]
  exact fin_wp (wp_imp h k)
/-! ### sums over all rows -/
def sumN (p : Nat) (F : Nat → Nat) : Nat := ((List.range p).map F).sum
theorem sumN_congr {p : Nat} {F G : Nat → Nat} (h : ∀ n, n < p → F n = G n) : sumN p F = sumN p G := by
  unfold sumN
  congr 1
  exact List.map_congr_left fun n m => h n (List.mem_range.mp m)
theorem sumN_rot1 (p : Nat) (F : Nat → Nat) : sumN p (fun n => F ((n + 1) % p)) = sumN p F := by
  cases p with
  | zero => rfl
  | succ p =>
    have e1 : sumN (p + 1) (fun n => F ((n + 1) % (p + 1))) = sumN p (fun n => F (n + 1)) + F 0 := by
      unfold sumN
      rw [List.range_succ, List.map_append, List.sum_append]
      have : ((List.range p).map fun n => F ((n + 1) % (p + 1))) = (List.range p).map fun n => F (n + 1) :=
        List.map_congr_left fun n m => by
          have := List.mem_range.mp m
          rw [Nat.mod_eq_of_lt (by omega)]
      rw [this]
      simp
    have e2 : sumN (p + 1) F = F 0 + sumN p (fun n => F (n + 1)) := by
      unfold sumN
      rw [List.range_succ_eq_map, List.map_cons, List.sum_cons, List.map_map]
      rfl
    rw [e1, e2, Nat.add_comm]
theorem sumN_rot (p : Nat) : ∀ (g : Nat) (F : Nat → Nat), sumN p (fun n => F ((n + g) % p)) = sumN p F
  | 0, F => sumN_congr fun n h => by rw [Nat.add_zero, Nat.mod_eq_of_lt h]
  | g + 1, F => by
    have h := sumN_rot1 p (fun m => F ((m + g) % p))
    rw [sumN_rot p g F] at h
    rw [← h]
    refine sumN_congr fun n _ => ?_
    rw [Nat.mod_add_mod, show n + (g + 1) = n + 1 + g by omega]
def sumR (p : Nat) (F : List Int → Nat) (rows : List (List Int)) : Nat := (rows.map F).sum
theorem sumR_longer (p : Nat) (F : List Int → Nat) (rows : List (List Int)) : sumR p F (longer p rows) = sumR p (fun r => sumN p fun n => F (r ++ [(n : Int)])) rows := by
  unfold sumR longer
  induction rows with
  | nil => rfl
  | cons r rows ih =>
    rw [List.flatMap_cons, List.map_append, List.sum_append, ih, List.map_cons, List.sum_cons, List.map_map]
    rfl
/-- a row moved on -/
def shift (p : Int) (r g : List Int) : List Int := (r.zip g).map fun x => (x.1 + x.2) % p
theorem shift_append (p : Int) (r g : List Int) (a b : Int) (h : r.length = g.length) : shift p (r ++ [a]) (g ++ [b]) = shift p r g ++ [(a + b) % p] := by
  unfold shift
  rw [List.zip_append h, List.map_append]
  rfl
theorem sumR_shift (p : Nat) : ∀ (k : Nat) (g : List Int) (F : List Int → Nat), g.length = k → sumR p (fun r => F (shift p r g)) (rowsM p k) = sumR p F (rowsM p k)
  | 0, g, F, h => by
    have e : g = [] := List.length_eq_zero_iff.mp h
    subst e
    rfl
  | k + 1, g, F, h => by
    have hne : g ≠ [] := fun z => by rw [z] at h; cases h
    obtain ⟨g0, b, rfl⟩ : ∃ g0 b, g = g0 ++ [b] := ⟨g.dropLast, g.getLast hne, (List.dropLast_concat_getLast hne).symm⟩
    have h0 : g0.length = k := by simpa using h
    show sumR p _ (longer p (rowsM p k)) = sumR p F (longer p (rowsM p k))
    rw [sumR_longer, sumR_longer]
    have ih := sumR_shift p k g0 (fun r => sumN p fun n => F (r ++ [(n : Int)])) h0
    rw [← ih]
    unfold sumR
    congr 1
    refine List.map_congr_left fun r m => ?_
    have rl := (rowsM_mem p k r m).1
    by_cases hp : p = 0
    · subst hp; rfl
    · rw [← sumN_rot p (b % p).toNat (fun n => F (shift p r g0 ++ [(n : Int)]))]
      refine sumN_congr fun n hn => ?_
      rw [shift_append _ _ _ _ _ (by rw [rl, h0])]
      congr 3
      have b0 := Int.emod_nonneg b (show (p : Int) ≠ 0 by omega)
      rw [show (((n + (b % p).toNat) % p : Nat) : Int) = ((n : Int) + b % p) % p by
        rw [Int.natCast_emod, Int.natCast_add, Int.toNat_of_nonneg b0]]
      rw [Int.add_emod_emod]
theorem shift_val (p x : Int) : ∀ (r g : List Int), r.length = g.length → Cg p (peval (shift p r g) x) (peval r x + peval g x)
  | [], [], _ => Cg.refl _ _
  | [], _ :: _, h => by cases h
  | _ :: _, [], h => by cases h
  | a :: r, b :: g, h => by
    obtain ⟨m, hm⟩ := shift_val p x r g (by simpa using h)
    obtain ⟨k, hk⟩ := Cg.emod p (a + b)
    refine ⟨k + x * m, ?_⟩
    show (a + b) % p + x * peval (shift p r g) x = a + x * peval r x + (b + x * peval g x) + p * (k + x * m)
    rw [hm, hk]
    grind
/-- a row of chance that hides the difference from some hands -/
theorem hides {p h f d : Int} (t : Tb p h f) (some_ : List Int) (hs : ∀ a ∈ some_, 1 ≤ a ∧ a ≤ h) (ls : some_.length ≤ f.toNat) : ∃ g : List Int, g.length = f.toNat ∧ ∀ a ∈ some_, Cg p (peval (d :: g) a) 0 := by
  have tp := t.pos
  have thp := t.hp
  have f1 := t.f1
  have f2 := t.f2
  have inv : ∀ a : Int, 1 ≤ a → a ≤ h → ∃ k, bk p a * a = 1 + p * k := fun a h1 h2 => by
    have bo := bk_ok t (n := a) (by omega) (by omega)
    obtain ⟨k, hk⟩ := Cg.of_mod (p := p) (a := bk p a * a) (b := 1) (by rw [bo, Int.emod_eq_of_lt (by omega) (by omega)])
    exact ⟨k, hk⟩
  match some_, hs, ls with
  | [], _, _ => exact ⟨List.replicate f.toNat 0, List.length_replicate, fun a m => by cases m⟩
  | [a], hs, _ =>
    obtain ⟨k, hk⟩ := inv a (hs a List.mem_cons_self).1 (hs a List.mem_cons_self).2
    refine ⟨(-d * bk p a) :: List.replicate (f.toNat - 1) 0, by simp; omega, fun b m => ?_⟩
    have e : b = a := by simpa using m
    subst e
    refine ⟨-d * k, ?_⟩
    show d + b * (-d * bk p b + b * peval (List.replicate (f.toNat - 1) 0) b) = _
    rw [peval_rep]
    grind
  | [a, c], hs, ls =>
    obtain ⟨k, hk⟩ := inv a (hs a (by simp)).1 (hs a (by simp)).2
    obtain ⟨j, hj⟩ := inv c (hs c (by simp)).1 (hs c (by simp)).2
    refine ⟨[-d * (bk p a + bk p c), d * (bk p a * bk p c)], by simp at ls ⊢; omega, fun b m => ?_⟩
    have m' : b = a ∨ b = c := by simpa using m
    rcases m' with rfl | rfl
    · refine ⟨-d * k + d * b * bk p c * k, ?_⟩
      show d + b * (-d * (bk p b + bk p c) + b * (d * (bk p b * bk p c) + b * 0)) = _
      grind
    · refine ⟨-d * j + d * b * bk p a * j, ?_⟩
      show d + b * (-d * (bk p a + bk p b) + b * (d * (bk p a * bk p b) + b * 0)) = _
      grind
  | a :: b :: c :: r, _, ls => exact absurd ls (by simp; omega)
theorem count_same {p h f : Int} (t : Tb p h f) (one two : Int) (some_ due : List Int) (hs : ∀ a ∈ some_, 1 ≤ a ∧ a ≤ h) (ls : some_.length ≤ f.toNat) : cntM p one some_ due (rowsM p.toNat f.toNat) = cntM p two some_ due (rowsM p.toNat f.toNat) := by
  have tp := t.pos
  have f1 := t.f1
  obtain ⟨g, gl, hg⟩ := hides t (d := two - one) some_ hs ls
  have h1 := sumR_shift p.toNat f.toNat g (fun ch => if seeM p two ch some_ = due then 1 else 0) gl
  have h2 : sumR p.toNat (fun r => if seeM p two (shift p r g) some_ = due then 1 else 0) (rowsM p.toNat f.toNat) = sumR p.toNat (fun r => if seeM p one r some_ = due then 1 else 0) (rowsM p.toNat f.toNat) := by
    unfold sumR
    congr 1
    refine List.map_congr_left fun r m => ?_
    have rl := (rowsM_mem _ _ r m).1
    have e : seeM p two (shift p r g) some_ = seeM p one r some_ := by
      unfold seeM
      refine List.map_congr_left fun a ma => ?_
      refine Cg.mod_eq ?_
      obtain ⟨k, hk⟩ := shift_val p a r g (by rw [rl, gl])
      obtain ⟨j, hj⟩ := hg a ma
      have hj' : two - one + a * peval g a = 0 + p * j := hj
      refine ⟨a * k + j, ?_⟩
      show two + a * peval (shift p r g) a = one + a * peval r a + p * (a * k + j)
      rw [hk]
      grind
    rw [e]
  have pe : ((p.toNat : Nat) : Int) = p := by omega
  rw [pe] at h1
  unfold cntM
  exact (h2.symm.trans h1)

theorem run_law07 (ns : List Int) : run S_law_v6 [.sc ns] = .ok (.d (.bool true)) := by
  unfold S_law_v6 B_law_v6
  rw [run_mk]
  have t := tab_ok (cellAt ns 0 / 4 * 9 + cellAt ns 0 % 4)
  have tp := t.pos
  have t3 := t.h3
  have t7 := t.h7
  have f1 := t.f1
  have f2 := t.f2
  have hb := run_table_by (cellAt ns 0 / 4 * 9 + cellAt ns 0 % 4)
  generalize tabP (cellAt ns 0 / 4 * 9 + cellAt ns 0 % 4) = p at *
  generalize tabH (cellAt ns 0 / 4 * 9 + cellAt ns 0 % 4) = h at *
  generalize tabF (cellAt ns 0 / 4 * 9 + cellAt ns 0 % 4) = f at *
  have q0 := Int.emod_nonneg (cellAt ns 3) (show h ≠ 0 by omega)
  have q1 := Int.emod_lt_of_pos (cellAt ns 3) (show 0 < h by omega)
  have r0 := Int.emod_nonneg (1 + cellAt ns 3 % h + cellAt ns 5 % (h - 1)) (show h ≠ 0 by omega)
  have r1 := Int.emod_lt_of_pos (1 + cellAt ns 3 % h + cellAt ns 5 % (h - 1)) (show 0 < h by omega)
  have u0 := Int.emod_nonneg (cellAt ns 5) (show h - 1 ≠ 0 by omega)
  have w0 : ∀ a : Int, 0 ≤ a % h → a % h < h → True := fun _ _ _ => trivial
  have lch : (numbersM (cellAt ns 6) f.toNat p).length < 10000 := by rw [numbersM_length]; omega
  refine step_nx (e' := [.va (.f (.sc ns)), .va (.f (.d (.int (cellAt ns 0)))), .no, .no, .no, .no, .no, .no, .no, .no, .no]) (by simp (disch := first | rfl | assumption | omega | simp [*])) ?_
  refine step_nx (e' := [.va (.f (.sc ns)), .va (.f (.d (.int (cellAt ns 0)))), .va (.f (tbl p h f)), .no, .no, .no, .no, .no, .no, .no, .no]) (by simp (disch := first | rfl | assumption | omega | simp [*]) [hb]) ?_
  refine step_nx (e' := [.va (.f (.sc ns)), .va (.f (.d (.int (cellAt ns 0)))), .va (.f (tbl p h f)), .va (.f (.d (.int (cellAt ns 1 % p)))), .no, .no, .no, .no, .no, .no, .no]) (by simp (disch := first | rfl | assumption | omega | simp [*])) ?_
  refine step_nx (e' := [.va (.f (.sc ns)), .va (.f (.d (.int (cellAt ns 0)))), .va (.f (tbl p h f)), .va (.f (.d (.int (cellAt ns 1 % p)))), .va (.f (.d (.int (cellAt ns 2 % p)))), .no, .no, .no, .no, .no, .no]) (by simp (disch := first | rfl | assumption | omega | simp [*])) ?_
  refine step_nx (e' := [.va (.f (.sc ns)), .va (.f (.d (.int (cellAt ns 0)))), .va (.f (tbl p h f)), .va (.f (.d (.int (cellAt ns 1 % p)))), .va (.f (.d (.int (cellAt ns 2 % p)))), .va (.f (.d (.int (1 + cellAt ns 3 % h)))), .no, .no, .no, .no, .no]) (by simp (disch := first | rfl | assumption | omega | simp [*])) ?_
  obtain ⟨P, hP⟩ : ∃ P : Env → Prop, ∀ e, P e ↔ ∃ some_ : List Int, ((∀ a ∈ some_, 1 ≤ a ∧ a ≤ h) ∧ some_.length ≤ f.toNat) ∧ e = [.va (.f (.sc ns)), .va (.f (.d (.int (cellAt ns 0)))), .va (.f (tbl p h f)), .va (.f (.d (.int (cellAt ns 1 % p)))), .va (.f (.d (.int (cellAt ns 2 % p)))), .va (.f (.d (.int (1 + cellAt ns 3 % h)))), .va (.f (.d (.list (some_.map .int)))), .no, .no, .no, .no] := ⟨_, fun _ => Iff.rfl⟩
  refine step_wp (P := P) ?_ fun e he => ?_
  · simp (disch := first | rfl | assumption | omega | simp [*])
    refine (hP _).mpr ⟨[1 + cellAt ns 3 % h], ⟨fun a m => ?_, by simp; omega⟩, rfl⟩
    have e : a = 1 + cellAt ns 3 % h := by simpa using m
    omega
  refine step_wp (P := P) ?_ fun e he => ?_
  · obtain ⟨some_, hs, rfl⟩ := (hP _).mp he
    by_cases hf : f = 2
    · by_cases hc : 0 < cellAt ns 4 % 3
      · have hsort : sortP (.list [.int (1 + cellAt ns 3 % h), .int (1 + (1 + cellAt ns 3 % h + cellAt ns 5 % (h - 1)) % h)]) = .ok (SV.dl ((srtI [1 + cellAt ns 3 % h, 1 + (1 + cellAt ns 3 % h + cellAt ns 5 % (h - 1)) % h]).map .int)) := sortP_ints [1 + cellAt ns 3 % h, 1 + (1 + cellAt ns 3 % h + cellAt ns 5 % (h - 1)) % h]
        have pm := srtI_perm [1 + cellAt ns 3 % h, 1 + (1 + cellAt ns 3 % h + cellAt ns 5 % (h - 1)) % h]
        generalize srtI [1 + cellAt ns 3 % h, 1 + (1 + cellAt ns 3 % h + cellAt ns 5 % (h - 1)) % h] = so at *
        simp (disch := first | rfl | assumption | omega | simp [*]) [hsort, hf, hc]
        rw [hf] at hP
        refine (hP _).mpr ⟨so, ⟨fun a m => ?_, by rw [pm.length_eq]; simp⟩, rfl⟩
        have m2 := pm.mem_iff.mp m
        simp only [List.mem_cons, List.not_mem_nil, or_false] at m2
        omega
      · simp (disch := first | rfl | assumption | omega | simp [*]) [hf, hc]
        rw [hf] at he
        exact he
    · simp (disch := first | rfl | assumption | omega | simp [*]) [hf]
      exact he
  refine step_wp (P := P) ?_ fun e he => ?_
  · obtain ⟨some_, hs, rfl⟩ := (hP _).mp he
    by_cases hc : cellAt ns 4 % 7 = 6
    · simp (disch := first | rfl | assumption | omega | simp [*]) [hc]
      exact (hP _).mpr ⟨[], ⟨(fun a m => by cases m), Nat.zero_le _⟩, rfl⟩
    · simp (disch := first | rfl | assumption | omega | simp [*]) [hc]
      exact he
  obtain ⟨some_, ⟨hs, ls⟩, rfl⟩ := (hP _).mp he
  have ls2 : some_.length < 100 := by omega
  generalize hch : numbersM (cellAt ns 6) f.toNat p = ch at *
  have hd := run_dealt p h f (cellAt ns 1 % p) ch (by omega) (by omega) (by omega) (by omega) lch
  simp (disch := first | rfl | assumption | omega | simp [*]) [hch, hd]
  rw [comp_map (items := some_.map .int) (fun x => .int (peval (cellAt ns 1 % p :: ch) (unI x) % p))]
  · rw [List.map_map, show (some_.map ((fun x => PyData.int (peval (cellAt ns 1 % p :: ch) (unI x) % p)) ∘ PyData.int)) = (seeM p (cellAt ns 1 % p) ch some_).map .int by unfold seeM; rw [List.map_map]; rfl]
    have c1 := run_counted p h f (cellAt ns 1 % p) t some_ (seeM p (cellAt ns 1 % p) ch some_) hs ls2
    have c2 := run_counted p h f (cellAt ns 2 % p) t some_ (seeM p (cellAt ns 1 % p) ch some_) hs ls2
    have cs := count_same t (cellAt ns 1 % p) (cellAt ns 2 % p) some_ (seeM p (cellAt ns 1 % p) ch some_) hs ls
    simp (disch := first | rfl | assumption | omega | simp [*]) [c1, c2, cs]
  · simp
  · rw [List.length_map]; omega
  · intro x hx
    obtain ⟨a, m, rfl⟩ := List.mem_map.mp hx
    have ra := hs a m
    refine ⟨_, gN_ap (t := .no) rfl rfl, ?_⟩
    have da := dealt_at p h (cellAt ns 1 % p) ch a ra.1 ra.2
    simp (disch := first | rfl | assumption | omega | simp [*]) [da]
theorem law07 : ∀ ns : List Int, ns.length ≤ 63 → ∃ a, S_law_v6 [.va (.f (.sc ns))] = .ret (.f (.d (.bool true))) a := fun ns _ => law_end (run_law07 ns)
end VL

set_option Elab.async false
set_option linter.all false
set_option maxRecDepth 100000
set_option maxHeartbeats 4000000
namespace VL
open PySem PySem.Spec PyProof.Rows L2

/-! ### a row is told by so many places -/
def quot (a : Int) : List Int → List Int
  | [] => []
  | [_] => []
  | _ :: e :: E => peval (e :: E) a :: quot a (e :: E)
theorem quot_length (a : Int) : ∀ D : List Int, (quot a D).length = D.length - 1
  | [] => rfl
  | [_] => rfl
  | _ :: e :: E => by
    show (quot a (e :: E)).length + 1 = _
    rw [quot_length a (e :: E)]
    simp
theorem quot_val (a x : Int) : ∀ D : List Int, peval D x = peval D a + (x - a) * peval (quot a D) x
  | [] => by show (0 : Int) = 0 + (x - a) * 0; omega
  | [d] => by
    show d + x * 0 = d + a * 0 + (x - a) * 0
    omega
  | d :: e :: E => by
    have ih := quot_val a x (e :: E)
    show d + x * peval (e :: E) x = d + a * peval (e :: E) a + (x - a) * (peval (e :: E) a + x * peval (quot a (e :: E)) x)
    rw [ih]
    grind
def Zr (p : Int) (D : List Int) : Prop := ∀ c ∈ D, Cg p c 0
theorem quot_zr (p a : Int) : ∀ D : List Int, Zr p (quot a D) → Cg p (peval D a) 0 → Zr p D
  | [], _, _ => fun c m => by cases m
  | [d], _, h => fun c m => by
    have e : c = d := by simpa using m
    subst e
    have h' : Cg p (c + a * 0) 0 := h
    rwa [Int.mul_zero, Int.add_zero] at h'
  | d :: e :: E, hq, h => by
    have h0 : Cg p (peval (e :: E) a) 0 := hq _ (List.mem_cons_self)
    have ih := quot_zr p a (e :: E) (fun c m => hq c (List.mem_cons_of_mem _ m)) h0
    intro c m
    rcases List.mem_cons.mp m with rfl | m
    · obtain ⟨k, hk⟩ := h0
      obtain ⟨j, hj⟩ := h
      have hj' : c + a * peval (e :: E) a = 0 + p * j := hj
      exact ⟨j - a * k, by rw [hk] at hj'; grind⟩
    · exact ih c m
theorem nz_diff {p h f x a b : Int} (t : Tb p h f) (hx : 0 ≤ x ∧ x < p) (ha : 0 ≤ a ∧ a < p) (hne : x ≠ a) (h0 : Cg p ((x - a) * b) 0) : Cg p b 0 := by
  rcases Int.lt_or_gt_of_ne hne with q | q
  · refine nz_mul t (a := a - x) (by omega) ?_
    obtain ⟨k, hk⟩ := h0
    exact ⟨-k, by grind⟩
  · exact nz_mul t (a := x - a) (by omega) h0
theorem roots_zr {p h f : Int} (t : Tb p h f) : ∀ (xs D : List Int), D.length ≤ xs.length → (∀ x ∈ xs, 0 ≤ x ∧ x < p) → xs.Pairwise (· ≠ ·) → (∀ x ∈ xs, Cg p (peval D x) 0) → Zr p D
  | [], D, hl, _, _, _ => by
    have e : D = [] := List.length_eq_zero_iff.mp (by simpa using hl)
    subst e
    exact fun c m => by cases m
  | a :: xs, D, hl, hr, hp, hz => by
    rw [List.pairwise_cons] at hp
    have h0 := hz a List.mem_cons_self
    refine quot_zr p a D ?_ h0
    refine roots_zr t xs (quot a D) (by rw [quot_length]; simp at hl; omega) (fun x m => hr x (List.mem_cons_of_mem _ m)) hp.2 fun x m => ?_
    refine nz_diff t (hr x (List.mem_cons_of_mem _ m)) (hr a List.mem_cons_self) (Ne.symm (hp.1 x m)) ?_
    obtain ⟨k, hk⟩ := h0
    obtain ⟨j, hj⟩ := hz x (List.mem_cons_of_mem _ m)
    have := quot_val a x D
    exact ⟨j - k, by rw [hk, hj] at this; grind⟩
def subL (F G : List Int) : List Int := (F.zip G).map fun x => x.1 - x.2
theorem subL_val (x : Int) : ∀ F G : List Int, F.length = G.length → peval (subL F G) x = peval F x - peval G x
  | [], [], _ => rfl
  | [], _ :: _, h => by cases h
  | _ :: _, [], h => by cases h
  | a :: F, b :: G, h => by
    have ih := subL_val x F G (by simpa using h)
    show a - b + x * peval (subL F G) x = a + x * peval F x - (b + x * peval G x)
    rw [ih]; grind
theorem subL_eq {p : Int} (hp : 0 < p) : ∀ F G : List Int, F.length = G.length → Rng p F → Rng p G → Zr p (subL F G) → F = G
  | [], [], _, _, _, _ => rfl
  | [], _ :: _, h, _, _, _ => by cases h
  | _ :: _, [], h, _, _, _ => by cases h
  | a :: F, b :: G, h, rF, rG, z => by
    have ih := subL_eq hp F G (by simpa using h) (fun c m => rF c (List.mem_cons_of_mem _ m)) (fun c m => rG c (List.mem_cons_of_mem _ m)) (fun c m => z c (List.mem_cons_of_mem _ m))
    have z0 : Cg p (a - b) 0 := z _ List.mem_cons_self
    have ra := rF a List.mem_cons_self
    have rb := rG b List.mem_cons_self
    have := cg_small z0 (by omega) (by omega)
    rw [ih, show a = b by omega]
/-- two rows alike at so many places -/
theorem row_unique {p h f : Int} (t : Tb p h f) {F G : List Int} (hl : F.length = G.length) (rF : Rng p F) (rG : Rng p G) {xs : List Int} (hx : F.length ≤ xs.length) (hr : ∀ x ∈ xs, 0 ≤ x ∧ x < p) (hd : xs.Pairwise (· ≠ ·)) (he : ∀ x ∈ xs, Cg p (peval F x) (peval G x)) : F = G := by
  have tp := t.pos
  refine subL_eq (by omega) F G hl rF rG (roots_zr t xs _ (by unfold subL; simp; omega) hr hd fun x m => ?_)
  rw [subL_val x F G hl]
  obtain ⟨k, hk⟩ := he x m
  exact ⟨k, by rw [hk]; grind⟩
/-! ### choices -/
def stC (r : List Int) : Int := match r.getLast? with
  | some a => a + 1
  | none => 0
def longC (n : Int) (r : List Int) : List (List Int) := (List.range (n - stC r).toNat).map fun (i : Nat) => r ++ [stC r + (i : Int)]
def chM (n : Int) : Nat → List (List Int)
  | 0 => [[]]
  | k + 1 => (chM n k).flatMap (longC n)
structure Ris (n : Int) (k : Nat) (r : List Int) : Prop where
  len : r.length = k
  up : r.Pairwise (· < ·)
  rng : ∀ c ∈ r, 0 ≤ c ∧ c < n
theorem stC_le {r : List Int} {n : Int} {k : Nat} (h : Ris n k r) : 0 ≤ stC r ∧ ∀ c ∈ r, c < stC r := by
  rcases List.eq_nil_or_concat r with e | ⟨r0, b, e⟩
  · subst e; exact ⟨Int.le_refl _, fun c m => by cases m⟩
  · rw [List.concat_eq_append] at e
    subst e
    have s : stC (r0 ++ [b]) = b + 1 := by unfold stC; rw [List.getLast?_append]; rfl
    rw [s]
    have hb := h.rng b (by simp)
    refine ⟨by omega, fun c m => ?_⟩
    rcases List.mem_append.mp m with m | m
    · have := (List.pairwise_append.mp h.up).2.2 c m b (by simp)
      omega
    · have e : c = b := by simpa using m
      omega
theorem chM_ris (n : Int) : ∀ k, ∀ r ∈ chM n k, Ris n k r
  | 0, r, m => by
    have e : r = [] := by simpa [chM] using m
    subst e
    exact ⟨rfl, List.Pairwise.nil, fun c m => by cases m⟩
  | k + 1, r, m => by
    have m' : r ∈ (chM n k).flatMap (longC n) := m
    obtain ⟨q, hq, m2⟩ := List.mem_flatMap.mp m'
    obtain ⟨i, hi, rfl⟩ := List.mem_map.mp m2
    have ih := chM_ris n k q hq
    have s := stC_le ih
    have il := List.mem_range.mp hi
    refine ⟨by simp [ih.len], List.pairwise_append.mpr ⟨ih.up, List.pairwise_singleton _ _, fun a ma b mb => ?_⟩, fun c mc => ?_⟩
    · have e : b = stC q + (i : Int) := by simpa using mb
      have := s.2 a ma
      omega
    · rcases List.mem_append.mp mc with z | z
      · exact ih.rng c z
      · have e : c = stC q + (i : Int) := by simpa using z
        have := s.1
        omega
theorem chM_all (n : Int) : ∀ k, ∀ r, Ris n k r → r ∈ chM n k
  | 0, r, h => by
    have e : r = [] := List.length_eq_zero_iff.mp h.len
    subst e
    simp [chM]
  | k + 1, r, h => by
    rcases List.eq_nil_or_concat r with e | ⟨r0, b, e⟩
    · subst e; exact absurd h.len (by simp)
    · rw [List.concat_eq_append] at e
      subst e
      have up := List.pairwise_append.mp h.up
      have h0 : Ris n k r0 := ⟨by have := h.len; simpa using this, up.1, fun c m => h.rng c (by simp [m])⟩
      have hb := h.rng b (by simp)
      have s := stC_le h0
      have sb : stC r0 ≤ b := by
        rcases List.eq_nil_or_concat r0 with e | ⟨r1, a, e⟩
        · subst e; exact hb.1
        · rw [List.concat_eq_append] at e
          subst e
          have s : stC (r1 ++ [a]) = a + 1 := by unfold stC; rw [List.getLast?_append]; rfl
          rw [s]
          have := up.2.2 a (by simp) b (by simp)
          omega
      show r0 ++ [b] ∈ (chM n k).flatMap (longC n)
      refine List.mem_flatMap.mpr ⟨r0, chM_all n k r0 h0, List.mem_map.mpr ⟨(b - stC r0).toNat, List.mem_range.mpr (by omega), ?_⟩⟩
      rw [show stC r0 + (((b - stC r0).toNat : Nat) : Int) = b by omega]
theorem longC_length (n : Int) (r : List Int) {k : Nat} (h : Ris n k r) : (longC n r).length ≤ n.toNat := by
  unfold longC
  rw [List.length_map, List.length_range]
  have := (stC_le h).1
  omega
theorem flatMap_le {α β : Type} (f : α → List β) (m : Nat) : ∀ l : List α, (∀ a ∈ l, (f a).length ≤ m) → (l.flatMap f).length ≤ l.length * m
  | [], _ => by simp
  | a :: l, h => by
    rw [List.flatMap_cons, List.length_append, List.length_cons, Nat.succ_mul]
    have := flatMap_le f m l fun b mb => h b (List.mem_cons_of_mem _ mb)
    have := h a List.mem_cons_self
    omega
theorem chM_length (n : Int) : ∀ k, (chM n k).length ≤ n.toNat ^ k
  | 0 => by simp [chM]
  | k + 1 => by
    have := flatMap_le (longC n) n.toNat (chM n k) fun r m => longC_length n r (chM_ris n k r m)
    rw [Nat.pow_succ]
    exact Nat.le_trans this (Nat.mul_le_mul_right _ (chM_length n k))
theorem atI_last {α : Type} (r : List α) (a : α) : atI (r ++ [a]) (-1) = some a := by
  unfold L2.atI L2.ixN
  rw [if_neg (by omega)]
  rw [if_pos (by rw [List.length_append]; simp; omega)]
  have : ((-1 : Int) + ((r ++ [a]).length : Nat)).toNat = r.length := by simp; omega
  show (r ++ [a])[_]? = _
  rw [this]
  simp
theorem run_choices (n k : Int) (hn : 0 ≤ n) (hn2 : n ≤ 20) (hk : 0 ≤ k) (hk2 : k ≤ 4) :
    run S_choices [.d (.int n), .d (.int k)] = .ok (.d (rowsP (chM n k.toNat))) := by
  unfold S_choices B_choices
  rw [run_mk]
  obtain ⟨I, hI⟩ : ∃ I : Nat → Env → Prop, ∀ j e, I j e ↔ ∃ s3 s4 s5 s6 s7, (free s3 = true ∧ free s4 = true ∧ free s5 = true ∧ free s6 = true ∧ free s7 = true) ∧ e = [.va (.f (.d (.int n))), .va (.f (.d (.int k))), .va (.f (.d (rowsP (chM n j)))), s3, s4, s5, s6, s7] := ⟨_, fun _ _ => Iff.rfl⟩
  have h0 : -4611686018427387904 ≤ k ∧ k < 4611686018427387904 := by omega
  simp (disch := first | rfl | assumption | omega | simp [*])
  refine fin_wp (wp_for I ?_ ?_ ?_)
  · exact (hI _ _).mpr ⟨.no, .no, .no, .no, .no, ⟨rfl, rfl, rfl, rfl, rfl⟩, rfl⟩
  · intro j x e hx h1
    obtain ⟨s3, s4, s5, s6, s7, ⟨h3, h4, h5, h6, h7⟩, rfl⟩ := (hI _ _).mp h1
    obtain ⟨hj, rfl⟩ := rng_get hx
    have jl : j < 4 := by omega
    have bl : (chM n j).length ≤ 20 ^ 3 := Nat.le_trans (chM_length n j) (Nat.le_trans (Nat.pow_le_pow_left (show n.toNat ≤ 20 by omega) j) (Nat.pow_le_pow_right (by omega) (by omega)))
    have hit : asL (rowsP (chM n j)) = .ok ((chM n j).map fun r => .list (r.map .int)) := rfl
    obtain ⟨J, hJ⟩ : ∃ J : Nat → Env → Prop, ∀ i e, J i e ↔ ∃ s5 s6 s7, (free s5 = true ∧ free s6 = true ∧ free s7 = true) ∧ e = [.va (.f (.d (.int n))), .va (.f (.d (.int k))), .va (.f (.d (rowsP (chM n j)))), .va (.f (.d (.int j))), .va (SV.dll (rowsD (((chM n j).take i).flatMap (longC n)))), s5, s6, s7] := ⟨_, fun _ _ => Iff.rfl⟩
    simp (disch := first | rfl | assumption | omega | simp [*]) [hit]
    refine wp_imp (wp_for (P := J (chM n j).length) J ?_ ?_ ?_) ?_
    · exact (hJ _ _).mpr ⟨s5, s6, s7, ⟨h5, h6, h7⟩, rfl⟩
    · intro i y e hy h2
      obtain ⟨s5, s6, s7, ⟨h5, h6, h7⟩, rfl⟩ := (hJ _ _).mp h2
      rw [List.getElem?_map] at hy
      cases hi : (chM n j)[i]? with
      | none => rw [hi] at hy; cases hy
      | some r =>
        rw [hi] at hy
        cases hy
        have il : i < (chM n j).length := (List.getElem?_eq_some_iff.mp hi).1
        have ris := chM_ris n j r (List.mem_of_getElem? hi)
        have st := stC_le ris
        have stn : stC r ≤ 20 := by
          rcases List.eq_nil_or_concat r with e | ⟨r0, b, e⟩
          · subst e; show (0 : Int) ≤ 20; omega
          · rw [List.concat_eq_append] at e
            subst e
            have s : stC (r0 ++ [b]) = b + 1 := by unfold stC; rw [List.getLast?_append]; rfl
            have hb := ris.rng b (by simp)
            omega
        have tl : (((chM n j).take i).flatMap (longC n)).length ≤ 20 ^ 3 * 20 := by
          refine Nat.le_trans (flatMap_le (longC n) 20 _ fun r m => Nat.le_trans (longC_length n r (chM_ris n j r (List.mem_of_mem_take m))) (by omega)) (Nat.mul_le_mul_right _ ?_)
          rw [List.length_take]; omega
        obtain ⟨L, hL⟩ : ∃ L : Nat → Env → Prop, ∀ m e, L m e ↔ ∃ s7, free s7 = true ∧ e = [.va (.f (.d (.int n))), .va (.f (.d (.int k))), .va (.f (.d (rowsP (chM n j)))), .va (.f (.d (.int j))), .va (SV.dll (rowsD (((chM n j).take i).flatMap (longC n) ++ (List.range m).map fun (i : Nat) => r ++ [stC r + (i : Int)]))), .va (.f (.d (.list (r.map .int)))), .va (.f (.d (.int (stC r)))), s7] := ⟨_, fun _ _ => Iff.rfl⟩
        have hst : vSet 6 (vIf (toT (vCmp .gt (toD (v1 lenP (vVarD 5))) (toD (vC (.int 0))))) (frO (v2 addV (toD (v2 ixP (vVarD 5) (toD (v1 negI (toD (vC (.int 1))))))) (toD (vC (.int 1))))) (vC (.int 0)))
            [.va (.f (.d (.int n))), .va (.f (.d (.int k))), .va (.f (.d (rowsP (chM n j)))), .va (.f (.d (.int j))), .va (SV.dll (rowsD (((chM n j).take i).flatMap (longC n)))), .va (.f (.d (.list (r.map .int)))), s6, s7]
            = .nx [.va (.f (.d (.int n))), .va (.f (.d (.int k))), .va (.f (.d (rowsP (chM n j)))), .va (.f (.d (.int j))), .va (SV.dll (rowsD (((chM n j).take i).flatMap (longC n)))), .va (.f (.d (.list (r.map .int)))), .va (.f (.d (.int (stC r)))), s7] := by
          rcases List.eq_nil_or_concat r with e | ⟨r0, b, e⟩
          · subst e
            simp (disch := first | rfl | assumption | omega | simp [*])
            rfl
          · rw [List.concat_eq_append] at e
            subst e
            have s : stC (r0 ++ [b]) = b + 1 := by unfold stC; rw [List.getLast?_append]; rfl
            have ha := atI_last (r0.map PyData.int) (.int b)
            simp (disch := first | rfl | assumption | omega | simp [*]) [ha, s]
        rw [gN_ap (t := s5) rfl h5, oW_some]
        rw [vSeq_ap]
        rw [show (List.set [.va (.f (.d (.int n))), .va (.f (.d (.int k))), .va (.f (.d (rowsP (chM n j)))), .va (.f (.d (.int j))), .va (SV.dll (rowsD (((chM n j).take i).flatMap (longC n)))), s5, s6, s7] 5 (.va (.f (.d (.list (r.map PyData.int)))))) = [.va (.f (.d (.int n))), .va (.f (.d (.int k))), .va (.f (.d (rowsP (chM n j)))), .va (.f (.d (.int j))), .va (SV.dll (rowsD (((chM n j).take i).flatMap (longC n)))), .va (.f (.d (.list (r.map .int)))), s6, s7] from rfl]
        rw [hst, andThen_nx]
        have hb1 : -4611686018427387904 ≤ stC r ∧ stC r < 4611686018427387904 ∧ -4611686018427387904 ≤ n ∧ n < 4611686018427387904 := by omega
        simp (disch := first | rfl | assumption | omega | simp [*])
        refine wp_for L ?_ ?_ ?_
        · exact (hL _ _).mpr ⟨s7, h7, by rw [List.range_zero, List.map_nil, List.append_nil]⟩
        · intro m y e hy h3
          obtain ⟨s7, h7, rfl⟩ := (hL _ _).mp h3
          obtain ⟨hm, rfl⟩ := rng_get hy
          have ll : (rowsD (((chM n j).take i).flatMap (longC n) ++ (List.range m).map fun (i : Nat) => r ++ [stC r + (i : Int)])).length < 16777216 := by
            rw [rowsD_length, List.length_append, List.length_map, List.length_range]
            omega
          have r2 : (r.map PyData.int).length + ([PyData.int (stC r + (m : Int))] : List PyData).length ≤ 16777216 := by simp; have := ris.len; omega
          have r3 : r.length ≤ 16777215 := by have := ris.len; omega
          rw [gN_ap (t := s7) rfl h7, oW_some]
          rw [vEx_ap, vApp_ap]
          have e1 : (plN 4 (List.set [.va (.f (.d (.int n))), .va (.f (.d (.int k))), .va (.f (.d (rowsP (chM n j)))), .va (.f (.d (.int j))), .va (SV.dll (rowsD (((chM n j).take i).flatMap (longC n) ++ (List.range m).map fun (i : Nat) => r ++ [stC r + (i : Int)]))), .va (.f (.d (.list (r.map .int)))), .va (.f (.d (.int (stC r)))), s7] 7 (.va (.f (.d (.int (stC r + (m : Int)))))))).bind lstP = .ok (4, [], SV.dll (rowsD (((chM n j).take i).flatMap (longC n) ++ (List.range m).map fun (i : Nat) => r ++ [stC r + (i : Int)]))) := by simp
          rw [e1, oR_ok]
          simp (disch := first | rfl | assumption | omega | simp [*])
          refine (hL _ _).mpr ⟨.va (.f (.d (.int (stC r + (m : Int))))), rfl, ?_⟩
          rw [List.range_succ, List.map_append, ← List.append_assoc, rowsD_append (_ ++ _)]
          simp [rowsD]
        · intro e h3
          obtain ⟨s7, h7, rfl⟩ := (hL _ _).mp h3
          rw [rngP_length]
          refine (hJ _ _).mpr ⟨.va (.f (.d (.list (r.map .int)))), .va (.f (.d (.int (stC r)))), s7, ⟨rfl, rfl, h7⟩, ?_⟩
          rw [take_succ' hi, List.flatMap_append]
          rw [show [r].flatMap (longC n) = longC n r by simp]
          rfl
    · intro e h2
      rwa [List.length_map] at h2
    · intro e h2
      obtain ⟨s5, s6, s7, ⟨h5, h6, h7⟩, rfl⟩ := (hJ _ _).mp h2
      rw [List.take_length]
      have e2 : frF (SV.dll (rowsD ((chM n j).flatMap (longC n)))) = .ok (.d (rowsP (chM n (j + 1)))) := by rw [frF_dll, rowsD_list]; rfl
      simp (disch := first | rfl | assumption | omega | simp [*]) [e2]
      exact (hI _ _).mpr ⟨.va (.f (.d (.int j))), .va (.f (.d (rowsP (chM n (j + 1))))), s5, s6, s7, ⟨rfl, rfl, h5, h6, h7⟩, rfl⟩
  · intro e h1
    obtain ⟨s3, s4, s5, s6, s7, ⟨h3, h4, h5, h6, h7⟩, rfl⟩ := (hI _ _).mp h1
    rw [rngP_length]
    simp
end VL

set_option Elab.async false
set_option linter.all false
set_option maxRecDepth 100000
set_option maxHeartbeats 4000000
namespace VL
open PySem PySem.Spec PyProof.Rows L2

/-! ### loops that may return -/
def Flow.wr (f : Flow) (R : Res FV → Prop) (P : Env → Prop) : Prop := match f with
  | .nx e => P e
  | f => R (fin f)
@[simp] theorem wr_nx (e : Env) (R : Res FV → Prop) (P : Env → Prop) : (Flow.nx e).wr R P = P e := rfl
@[simp] theorem wr_rt (s : SV) (e : Env) (R : Res FV → Prop) (P : Env → Prop) : (Flow.rt s e).wr R P = R (frF s) := rfl
@[simp] theorem wr_err (c : Str) (e : Env) (R : Res FV → Prop) (P : Env → Prop) : (Flow.err c e).wr R P = R (.err c) := rfl
@[simp] theorem wr_andThen (f : Flow) (g : ST) (R : Res FV → Prop) (P : Env → Prop) : (f.andThen g).wr R P = f.wr R fun e => (g e).wr R P := by cases f <;> rfl
@[simp] theorem wr_ite (c : Prop) [Decidable c] (a b : Flow) (R : Res FV → Prop) (P : Env → Prop) : (if c then a else b).wr R P = if c then a.wr R P else b.wr R P := by split <;> rfl
theorem wr_imp {f : Flow} {R : Res FV → Prop} {P Q : Env → Prop} (h : f.wr R P) (k : ∀ e, P e → Q e) : f.wr R Q := by
  cases f with
  | nx e => exact k e h
  | _ => exact h
theorem wr_for {g : Tgt} {b : ST} {R : Res FV → Prop} {P : Env → Prop} (I : Nat → Env → Prop) : ∀ {items : List PyData} {e : Env}, I 0 e → (∀ i x e, items[i]? = some x → I i e → oW (g x e) fun e1 => (b e1).wr R (I (i + 1))) → (∀ e, I items.length e → P e) → (forL g b items e).wr R P := by
  intro items
  induction items generalizing I with
  | nil => intro e h0 _ hk; exact hk e h0
  | cons x items ih =>
    intro e h0 hs hk
    have h1 := hs 0 x e rfl h0
    rw [forL_cons]
    unfold tgt
    cases z : g x e with
    | none => rw [z] at h1; exact h1.elim
    | some e1 =>
      rw [z] at h1
      have h2 : (b e1).wr R (I 1) := h1
      dsimp only
      rw [wr_andThen]
      refine wr_imp h2 fun e2 h3 => ?_
      exact ih (fun i => I (i + 1)) h3 (fun i y e hy hi => hs (i + 1) y e (by simpa using hy) hi) hk
theorem fin_wr {f : Flow} {k : ST} {R : Res FV → Prop} {P : Env → Prop} (h : f.wr R P) (h2 : ∀ e, P e → R (fin (k e))) : R (fin (f.andThen k)) := by
  cases f with
  | nx e => exact h2 e h
  | _ => exact h
/-! ### shares, some of which didn't come -/
def shD : Option Int → PyData
  | some i => .int i
  | none => .none
def ptsO (k : Int) : List (Option Int) → List (Int × Int)
  | [] => []
  | some s :: r => (k, s) :: ptsO (k + 1) r
  | none :: r => ptsO (k + 1) r
def ptF : PyData → Option PyData
  | .tuple [.int k, .int s] => some (.tuple [.int (k + 1), .int s])
  | _ => none
theorem ptsO_fm : ∀ (k : Nat) (S : List (Option Int)), (enumP k (S.map shD)).filterMap ptF = ptsP (ptsO ((k : Int) + 1) S)
  | _, [] => rfl
  | k, some s :: r => by
    have ih := ptsO_fm (k + 1) r
    show (PyData.tuple [.int (k : Int), .int s] :: enumP (k + 1) (r.map shD)).filterMap ptF = _
    rw [List.filterMap_cons_some (show ptF (PyData.tuple [.int (k : Int), .int s]) = some _ from rfl), ih]
    rw [show (((k + 1 : Nat) : Int)) = (k : Int) + 1 by omega]
    rfl
  | k, none :: r => by
    have ih := ptsO_fm (k + 1) r
    show (PyData.tuple [.int (k : Int), .none] :: enumP (k + 1) (r.map shD)).filterMap ptF = _
    rw [List.filterMap_cons_none (show ptF (PyData.tuple [.int (k : Int), .none]) = none from rfl), ih]
    rw [show (((k + 1 : Nat) : Int)) = (k : Int) + 1 by omega]
    rfl
theorem ptsO_mem : ∀ (S : List (Option Int)) (k : Int) (q : Int × Int), q ∈ ptsO k S ↔ ∃ i : Nat, S[i]? = some (some q.2) ∧ q.1 = k + (i : Int)
  | [], k, q => by simp [ptsO]
  | some s :: r, k, q => by
    show q ∈ (k, s) :: ptsO (k + 1) r ↔ _
    rw [List.mem_cons, ptsO_mem r (k + 1) q]
    constructor
    · rintro (rfl | ⟨i, h1, h2⟩)
      · exact ⟨0, rfl, by simp⟩
      · exact ⟨i + 1, by simpa using h1, by omega⟩
    · rintro ⟨i, h1, h2⟩
      cases i with
      | zero =>
        left
        have e : s = q.2 := by simpa using h1
        exact Prod.ext (by simpa using h2) e.symm
      | succ i => exact .inr ⟨i, by simpa using h1, by omega⟩
  | none :: r, k, q => by
    show q ∈ ptsO (k + 1) r ↔ _
    rw [ptsO_mem r (k + 1) q]
    constructor
    · rintro ⟨i, h1, h2⟩
      exact ⟨i + 1, by simpa using h1, by omega⟩
    · rintro ⟨i, h1, h2⟩
      cases i with
      | zero => simp at h1
      | succ i => exact ⟨i, by simpa using h1, by omega⟩
theorem ptsO_up : ∀ (S : List (Option Int)) (k : Int), (ptsO k S).Pairwise fun a b => a.1 < b.1
  | [], _ => List.Pairwise.nil
  | some s :: r, k => by
    show ((k, s) :: ptsO (k + 1) r).Pairwise _
    refine List.pairwise_cons.mpr ⟨fun q m => ?_, ptsO_up r (k + 1)⟩
    obtain ⟨i, _, h⟩ := (ptsO_mem r (k + 1) q).mp m
    show k < q.1
    omega
  | none :: r, k => ptsO_up r (k + 1)
theorem ptsO_length : ∀ (S : List (Option Int)) (k : Int), (ptsO k S).length + S.countP (·.isNone) = S.length
  | [], _ => rfl
  | some s :: r, k => by
    have := ptsO_length r (k + 1)
    show ((k, s) :: ptsO (k + 1) r).length + _ = _
    simp
    omega
  | none :: r, k => by
    have := ptsO_length r (k + 1)
    show (ptsO (k + 1) r).length + _ = _
    simp
    omega
/-- points picked -/
def pick (pts : List (Int × Int)) (ch : List Int) : List (Int × Int) := ch.map fun k => pts.getD k.toNat (0, 0)
def pkD (pts : List (Int × Int)) : PyData → PyData
  | .int k => .tuple [.int (pts.getD k.toNat (0, 0)).1, .int (pts.getD k.toNat (0, 0)).2]
  | _ => .none
def liarsM (p : Int) (pts : List (Int × Int)) (F : List Int) : List Int := (pts.filter fun q => decide (peval F q.1 % p ≠ q.2)).map fun q => q.1
def lrF (p : Int) (F : List Int) : PyData → Option PyData
  | .tuple [.int a, .int b] => if peval F a % p ≠ b then some (.int a) else none
  | _ => none
theorem liars_fm (p : Int) (F : List Int) : ∀ pts : List (Int × Int), (ptsP pts).filterMap (lrF p F) = (liarsM p pts F).map .int
  | [] => rfl
  | q :: pts => by
    have ih := liars_fm p F pts
    show (PyData.tuple [.int q.1, .int q.2] :: ptsP pts).filterMap (lrF p F) = _
    unfold liarsM at ih ⊢
    by_cases h : peval F q.1 % p = q.2
    · rw [List.filterMap_cons_none (show lrF p F (PyData.tuple [.int q.1, .int q.2]) = none from if_neg (fun z => z h)), ih, List.filter_cons_of_neg (by simp [h])]
    · rw [List.filterMap_cons_some (show lrF p F (PyData.tuple [.int q.1, .int q.2]) = some (.int q.1) from if_pos h), ih, List.filter_cons_of_pos (by simp [h])]
      rfl
structure PtOk (p : Int) (pts : List (Int × Int)) : Prop where
  rng : ∀ q ∈ pts, (0 ≤ q.1 ∧ q.1 < p) ∧ (0 ≤ q.2 ∧ q.2 < p)
  up : pts.Pairwise fun a b => a.1 < b.1
theorem pick_mem {pts : List (Int × Int)} {ch : List Int} {k : Nat} (h : Ris pts.length k ch) : ∀ q ∈ pick pts ch, q ∈ pts := fun q m => by
  obtain ⟨c, hc, rfl⟩ := List.mem_map.mp m
  have r := h.rng c hc
  have il : c.toNat < pts.length := by omega
  simp only [List.getD, List.getElem?_eq_getElem il, Option.getD_some]
  exact List.getElem_mem il
theorem pick_up {pts : List (Int × Int)} (up : pts.Pairwise fun a b => a.1 < b.1) {ch : List Int} {k : Nat} (h : Ris pts.length k ch) : (pick pts ch).Pairwise fun a b => a.1 < b.1 := by
  unfold pick
  rw [List.pairwise_map]
  refine List.Pairwise.imp_of_mem ?_ h.up
  intro a b ma mb hab
  have ra := h.rng a ma
  have rb := h.rng b mb
  have ia : a.toNat < pts.length := by omega
  have ib : b.toNat < pts.length := by omega
  simp only [List.getD, List.getElem?_eq_getElem ia, List.getElem?_eq_getElem ib, Option.getD_some]
  exact (List.pairwise_iff_getElem.mp up) _ _ ia ib (by omega)
theorem up_dist {pts : List (Int × Int)} (up : pts.Pairwise fun a b => a.1 < b.1) : DistX pts := fun j k q r hj hk hne he => by
  obtain ⟨jl, ej⟩ := List.getElem?_eq_some_iff.mp hj
  obtain ⟨kl, ek⟩ := List.getElem?_eq_some_iff.mp hk
  subst ej ek
  rcases Nat.lt_or_gt_of_ne hne with h | h
  · have := (List.pairwise_iff_getElem.mp up) _ _ jl kl h; omega
  · have := (List.pairwise_iff_getElem.mp up) _ _ kl jl h; omega
/-- what mended tells -/
def Mended (p f wrong : Int) (pts : List (Int × Int)) (r : Res FV) : Prop :=
  (∃ ch F, ch ∈ chM pts.length (f + 1).toNat ∧ Thr p (pick pts ch) F ∧ ((liarsM p pts F).length : Int) ≤ wrong ∧ r = .ok (.d (.tuple [.int (F.getD 0 0), .list ((liarsM p pts F).map .int)])))
  ∨ (r = .ok (.d .none) ∧ ∀ ch ∈ chM pts.length (f + 1).toNat, ∃ F, Thr p (pick pts ch) F ∧ wrong < ((liarsM p pts F).length : Int))
theorem pts_fr (S : List (Option Int)) : ∀ x ∈ enumP 0 (S.map shD), ∃ k : Int, ∃ o : Option Int, x = .tuple [.int k, shD o] := fun x m => by
  obtain ⟨i, hi⟩ := List.mem_iff_getElem?.mp m
  obtain ⟨d, hd, rfl⟩ := enum_get hi
  rw [List.getElem?_map] at hd
  cases z : S[i]? with
  | none => rw [z] at hd; cases hd
  | some o => rw [z] at hd; cases hd; exact ⟨_, o, rfl⟩
theorem run_mended (p h f wrong : Int) (t : Tb p h f) (S : List (Option Int)) (hS : S.length ≤ 20) (hok : PtOk p (ptsO 1 S)) (hw : 0 ≤ wrong ∧ wrong < 100) :
    (((ptsO 1 S).length : Int) < f + 1 + 2 * wrong → run S_mended [tbl p h f, .d (.list (S.map shD)), .d (.int wrong)] = .err "TooFew") ∧
    (¬ ((ptsO 1 S).length : Int) < f + 1 + 2 * wrong → Mended p f wrong (ptsO 1 S) (run S_mended [tbl p h f, .d (.list (S.map shD)), .d (.int wrong)])) := by
  have tp := t.pos
  have tf := t.f1
  have tf2 := t.f2
  unfold S_mended B_mended
  rw [run_mk]
  have hlen := ptsO_length S 1
  have hfm := ptsO_fm 0 S
  generalize hpts : ptsO 1 S = pts at *
  have hpl : (ptsP pts).length = pts.length := ptsP_length pts
  have hz : vSet 3 (frO (vComp (vItEnum (vVarD 1)) (gT 2 (gsC (gN 7) (gsC (gN 8) gsN))) (toT (v1 (fun x => iB (!isN x)) (vVarD 8))) (unO (vTup (vCons (toD (frO (v2 addV (vVarD 7) (toD (vC (.int 1)))))) (vCons (toD (vVar 8)) vNil)))) [7, 8]))
      ([tbl p h f, FV.d (.list (S.map shD)), .d (.int wrong)].map vaF ++ List.replicate 7 .no) = .nx [.va (.f (tbl p h f)), .va (.f (.d (.list (S.map shD)))), .va (.f (.d (.int wrong))), .va (.f (.d (.list (ptsP pts)))), .no, .no, .no, .no, .no, .no] := by
    rw [vSet_ap, frO_ap, comp_fr (items := enumP 0 (S.map shD)) ptF]
    · rw [hfm, show ((0 : Nat) : Int) + 1 = 1 from rfl, hpts]
      simp
    · simp
    · rw [enumP_length]; simp; omega
    · intro x hx
      obtain ⟨k, o, rfl⟩ := pts_fr S x hx
      cases o with
      | none =>
        refine ⟨none, ?_, rfl⟩
        simp [turnC, shD]
      | some s =>
        refine ⟨some (.f (.d (.tuple [.int (k + 1), .int s]))), ?_, rfl⟩
        simp [turnC, shD]
  rw [vSeq_ap, hz, andThen_nx]
  constructor
  · intro hs
    simp (disch := first | rfl | assumption | omega | simp [*]) [hpl, hs]
  · intro hs
    have hch := run_choices pts.length (f + 1) (by omega) (by omega) (by omega) (by omega)
    have hit : asL (rowsP (chM (pts.length : Int) (f + 1).toNat)) = .ok ((chM (pts.length : Int) (f + 1).toNat).map fun r => .list (r.map .int)) := rfl
    simp (disch := first | rfl | assumption | omega | simp [*]) [hpl, hs, hch, hit]
    obtain ⟨I, hI⟩ : ∃ I : Nat → Env → Prop, ∀ j e, I j e ↔ ∃ s4 s5 s6, (free s4 = true ∧ free s5 = true ∧ free s6 = true) ∧ e = [.va (.f (tbl p h f)), .va (.f (.d (.list (S.map shD)))), .va (.f (.d (.int wrong))), .va (.f (.d (.list (ptsP pts)))), s4, s5, s6, .no, .no, .no] ∧
        ∀ ch ∈ (chM pts.length (f + 1).toNat).take j, ∃ F, Thr p (pick pts ch) F ∧ wrong < ((liarsM p pts F).length : Int) := ⟨_, fun _ _ => Iff.rfl⟩
    refine fin_wr (P := I (chM pts.length (f + 1).toNat).length) (wr_for I ?_ ?_ ?_) ?_
    · exact (hI _ _).mpr ⟨.no, .no, .no, ⟨rfl, rfl, rfl⟩, rfl, fun ch m => by rw [List.take_zero] at m; cases m⟩
    · intro j x e hx h1
      obtain ⟨s4, s5, s6, ⟨h4, h5, h6⟩, rfl, hall⟩ := (hI _ _).mp h1
      rw [List.getElem?_map] at hx
      cases hj : (chM pts.length (f + 1).toNat)[j]? with
      | none => rw [hj] at hx; cases hx
      | some ch =>
        rw [hj] at hx
        cases hx
        have cm := List.mem_of_getElem? hj
        have ris := chM_ris _ _ ch cm
        have pl : (pick pts ch).length = (f + 1).toNat := by unfold pick; rw [List.length_map, ris.len]
        have pm := pick_mem ris
        have pu := pick_up hok.up ris
        rcases run_through p h f t (pick pts ch) (by omega) (fun q m => (hok.rng q (pm q m)).1) (fun q m => by have := (hok.rng q (pm q m)).2; omega) with ⟨nd, _⟩ | ⟨_, F, hF, th⟩
        · exact absurd (up_dist pu) nd
        · rw [gN_ap (t := s4) rfl h4, oW_some]
          have e1 : vSet 5 (frO (vCall S_through (aC (vVar 0) (aC (frO (vComp (vItL (vVarD 4)) (gN 7) vYes (unO (v2 ixP (vVarD 3) (vVarD 7))) [7])) aN))))
              [.va (.f (tbl p h f)), .va (.f (.d (.list (S.map shD)))), .va (.f (.d (.int wrong))), .va (.f (.d (.list (ptsP pts)))), .va (.f (.d (.list (ch.map .int)))), s5, s6, .no, .no, .no]
              = .nx [.va (.f (tbl p h f)), .va (.f (.d (.list (S.map shD)))), .va (.f (.d (.int wrong))), .va (.f (.d (.list (ptsP pts)))), .va (.f (.d (.list (ch.map .int)))), .va (.f (.d (.list (F.map .int)))), s6, .no, .no, .no] := by
            rw [vSet_ap, frO_ap, vCall_fr, aC_ap, aC_ap, frO_ap, comp_map (items := ch.map .int) (pkD pts)]
            · rw [show ((ch.map PyData.int).map (pkD pts)) = ptsP (pick pts ch) by unfold ptsP pick; rw [List.map_map, List.map_map]; rfl]
              simp (disch := first | rfl | assumption | omega | simp [*]) [hF]
            · simp
            · rw [List.length_map]; have := ris.len; omega
            · intro x hx
              obtain ⟨c, mc, rfl⟩ := List.mem_map.mp hx
              have rc := ris.rng c mc
              have il : c.toNat < pts.length := by omega
              have ha : atI (ptsP pts) c = some (.tuple [.int (pts.getD c.toNat (0, 0)).1, .int (pts.getD c.toNat (0, 0)).2]) := by
                rw [atI_pos rc.1]
                unfold ptsP
                rw [List.getElem?_map]
                simp only [List.getD, List.getElem?_eq_getElem il, Option.getD_some]
                rfl
              refine ⟨_, gN_ap (t := .no) rfl rfl, ?_⟩
              simp (disch := first | rfl | assumption | omega | simp [*]) [ha, pkD]
          have e2 : vSet 6 (frO (vComp (vItL (vVarD 3)) (gT 2 (gsC (gN 9) (gsC (gN 8) gsN))) (toT (vCmp .ne (frD (vCall S_worth (aC (vVar 0) (aC (vVar 5) (aC (vVar 9) aN))))) (vVarD 8))) (unO (vVar 9)) [9, 8]))
              [.va (.f (tbl p h f)), .va (.f (.d (.list (S.map shD)))), .va (.f (.d (.int wrong))), .va (.f (.d (.list (ptsP pts)))), .va (.f (.d (.list (ch.map .int)))), .va (.f (.d (.list (F.map .int)))), s6, .no, .no, .no]
              = .nx [.va (.f (tbl p h f)), .va (.f (.d (.list (S.map shD)))), .va (.f (.d (.int wrong))), .va (.f (.d (.list (ptsP pts)))), .va (.f (.d (.list (ch.map .int)))), .va (.f (.d (.list (F.map .int)))), .va (.f (.d (.list ((liarsM p pts F).map .int)))), .no, .no, .no] := by
            rw [vSet_ap, frO_ap, comp_fr (items := ptsP pts) (lrF p F)]
            · rw [liars_fm]
              simp (disch := first | rfl | assumption | omega | simp [*])
            · simp
            · omega
            · intro x hx
              obtain ⟨q, mq, rfl⟩ := List.mem_map.mp hx
              have hw := run_worth p h f q.1 F (by omega) (by omega)
              by_cases hq : peval F q.1 % p = q.2
              · refine ⟨none, ?_, ?_⟩
                · simp (disch := first | rfl | assumption | omega | simp [*]) [turnC, hw, hq]
                · show none = (lrF p F _).map some
                  simp [lrF, hq]
              · refine ⟨some (.f (.d (.int q.1))), ?_, ?_⟩
                · simp (disch := first | rfl | assumption | omega | simp [*]) [turnC, hw, hq]
                · show some (SV.frz _) = (lrF p F _).map some
                  simp [lrF, hq]
                  rfl
          rw [show (List.set [.va (.f (tbl p h f)), .va (.f (.d (.list (S.map shD)))), .va (.f (.d (.int wrong))), .va (.f (.d (.list (ptsP pts)))), s4, s5, s6, .no, .no, .no] 4 (.va (.f (.d (.list (ch.map PyData.int)))))) = [.va (.f (tbl p h f)), .va (.f (.d (.list (S.map shD)))), .va (.f (.d (.int wrong))), .va (.f (.d (.list (ptsP pts)))), .va (.f (.d (.list (ch.map .int)))), s5, s6, .no, .no, .no] from rfl]
          rw [vSeq_ap, e1, andThen_nx, vSeq_ap, e2, andThen_nx]
          have Fl : 0 < F.length := by rw [th.len, pl]; omega
          have F0 : atI (F.map PyData.int) 0 = some (.int (F.getD 0 0)) := by
            rw [atI_pos (by omega), List.getElem?_map, show (0 : Int).toNat = 0 from rfl]
            simp only [List.getD, List.getElem?_eq_getElem Fl, Option.getD_some]
            rfl
          by_cases hl : ((liarsM p pts F).length : Int) ≤ wrong
          · simp (disch := first | rfl | assumption | omega | simp [*]) [F0, hl]
            exact .inl ⟨ch, F, cm, th, hl, by simp [List.getElem?_eq_getElem Fl]⟩
          · simp (disch := first | rfl | assumption | omega | simp [*]) [hl]
            refine (hI _ _).mpr ⟨_, _, _, ⟨rfl, rfl, rfl⟩, rfl, fun c m => ?_⟩
            rw [take_succ' hj] at m
            rcases List.mem_append.mp m with m | m
            · exact hall c m
            · have e : c = ch := by simpa using m
              subst e
              exact ⟨F, th, by omega⟩
    · intro e h1; rwa [List.length_map] at h1
    · intro e h1
      obtain ⟨s4, s5, s6, ⟨h4, h5, h6⟩, rfl, hall⟩ := (hI _ _).mp h1
      rw [List.take_length] at hall
      exact .inr ⟨by simp, hall⟩
end VL

set_option Elab.async false
set_option linter.all false
set_option maxRecDepth 100000
set_option maxHeartbeats 4000000
namespace VL
open PySem PySem.Spec PyProof.Rows L2

/-! ### who is right -/
theorem three_way {α : Type} (a b : α → Bool) : ∀ l : List α, l.length ≤ l.countP a + l.countP b + (l.filter fun x => !a x && !b x).length
  | [] => by simp
  | x :: l => by
    have ih := three_way a b l
    by_cases ha : a x = true <;> by_cases hb : b x = true <;> simp [ha, hb] <;> omega
theorem countP_set_le {α : Type} (P : α → Bool) (x : α) : ∀ (l : List α) (i : Nat), (l.set i x).countP P ≤ l.countP P + 1
  | [], _ => by simp
  | a :: l, 0 => by
    rw [List.set_cons_zero, List.countP_cons, List.countP_cons]
    split <;> split <;> omega
  | a :: l, i + 1 => by
    have := countP_set_le P x l i
    rw [List.set_cons_succ, List.countP_cons, List.countP_cons]
    split <;> omega
theorem sorted_ext : ∀ a b : List Int, a.Pairwise (· < ·) → b.Pairwise (· < ·) → (∀ x, x ∈ a ↔ x ∈ b) → a = b
  | [], [], _, _, _ => rfl
  | [], y :: b, _, _, h => absurd ((h y).mpr List.mem_cons_self) (by simp)
  | x :: a, [], _, _, h => absurd ((h x).mp List.mem_cons_self) (by simp)
  | x :: a, y :: b, ha, hb, h => by
    rw [List.pairwise_cons] at ha hb
    have e : x = y := by
      rcases List.mem_cons.mp ((h x).mp List.mem_cons_self) with q | q
      · exact q
      · rcases List.mem_cons.mp ((h y).mpr List.mem_cons_self) with r | r
        · exact r.symm
        · have := hb.1 x q
          have := ha.1 y r
          omega
    subst e
    rw [sorted_ext a b ha.2 hb.2 fun z => ?_]
    constructor
    · intro m
      rcases List.mem_cons.mp ((h z).mp (List.mem_cons_of_mem _ m)) with q | q
      · subst q; have := ha.1 z m; omega
      · exact q
    · intro m
      rcases List.mem_cons.mp ((h z).mpr (List.mem_cons_of_mem _ m)) with q | q
      · subst q; have := hb.1 z m; omega
      · exact q
theorem srt_lt {l : List Int} (h : l.Pairwise (· ≠ ·)) : (srtI l).Pairwise (· < ·) := by
  have h2 : (srtI l).Pairwise (· ≠ ·) := ((srtI_perm l).pairwise_iff (fun {a b} (h : a ≠ b) => Ne.symm h)).mpr h
  have h3 := (srtI_le l)
  exact (h3.and h2).imp fun h => by omega
theorem pts_up_fst {pts : List (Int × Int)} (up : pts.Pairwise fun a b => a.1 < b.1) : (pts.map fun q => q.1).Pairwise (· < ·) := by
  rw [List.pairwise_map]; exact up
theorem up_ne {l : List Int} (h : l.Pairwise (· < ·)) : l.Pairwise (· ≠ ·) := h.imp fun h => by omega
theorem liarsM_count (p : Int) (pts : List (Int × Int)) (F : List Int) : (liarsM p pts F).length = pts.countP fun q => decide (peval F q.1 % p ≠ q.2) := by
  unfold liarsM
  rw [List.length_map, ← List.countP_eq_length_filter]
/-- two rows with few others each are alike -/
theorem same_row {p h f : Int} (t : Tb p h f) {pts : List (Int × Int)} (ok : PtOk p pts) {F G : List Int} {n a b : Nat} (lF : F.length = n) (lG : G.length = n) (rF : Rng p F) (rG : Rng p G) (cF : (liarsM p pts F).length ≤ a) (cG : (liarsM p pts G).length ≤ b) (hl : n + a + b ≤ pts.length) : F = G := by
  have tw := three_way (fun q => decide (peval F q.1 % p ≠ q.2)) (fun q => decide (peval G q.1 % p ≠ q.2)) pts
  rw [liarsM_count] at cF cG
  generalize hg : (pts.filter fun x => !decide (peval F x.1 % p ≠ x.2) && !decide (peval G x.1 % p ≠ x.2)) = good at tw
  have mem : ∀ q ∈ good, q ∈ pts ∧ peval F q.1 % p = q.2 ∧ peval G q.1 % p = q.2 := fun q m => by
    rw [← hg] at m
    obtain ⟨m1, m2⟩ := List.mem_filter.mp m
    simp at m2
    exact ⟨m1, m2.1, m2.2⟩
  have up : good.Pairwise fun a b => a.1 < b.1 := by rw [← hg]; exact List.Pairwise.filter _ ok.up
  refine row_unique t (by rw [lF, lG]) rF rG (xs := good.map fun q => q.1) (by rw [List.length_map, lF]; omega) (fun x m => ?_) (up_ne (pts_up_fst up)) (fun x m => ?_)
  · obtain ⟨q, hq, rfl⟩ := List.mem_map.mp m
    exact (ok.rng q (mem q hq).1).1
  · obtain ⟨q, hq, rfl⟩ := List.mem_map.mp m
    exact Cg.of_mod (by rw [(mem q hq).2.1, (mem q hq).2.2])
/-- a good choice -/
theorem good_choice (pts : List (Int × Int)) (P : (Int × Int) → Bool) (k : Nat) (h : k ≤ pts.countP P) : ∃ ch, Ris pts.length k ch ∧ ∀ q ∈ pick pts ch, P q = true := by
  have key : ((List.range pts.length).filter fun i => P (pts.getD i (0, 0))).length = pts.countP P := by
    rw [← List.countP_eq_length_filter]
    have e : pts = (List.range pts.length).map fun i => pts.getD i (0, 0) := by
      refine List.ext_getElem (by simp) fun i h1 h2 => ?_
      simp [List.getD, List.getElem?_eq_getElem h1]
    conv => rhs; rw [e]
    rw [List.countP_map]
    rfl
  refine ⟨(((List.range pts.length).filter fun i => P (pts.getD i (0, 0))).take k).map fun (i : Nat) => (i : Int), ⟨?_, ?_, ?_⟩, ?_⟩
  · rw [List.length_map, List.length_take, key]; omega
  · rw [List.pairwise_map]
    have : (List.range pts.length).Pairwise (· < ·) := List.pairwise_lt_range
    exact ((this.filter _).sublist (List.take_sublist _ _)).imp fun h => by omega
  · intro c m
    obtain ⟨i, hi, rfl⟩ := List.mem_map.mp m
    have := List.mem_range.mp (List.mem_filter.mp (List.mem_of_mem_take hi)).1
    omega
  · intro q m
    unfold pick at m
    rw [List.map_map] at m
    obtain ⟨i, hi, rfl⟩ := List.mem_map.mp m
    have := (List.mem_filter.mp (List.mem_of_mem_take hi)).2
    simpa using this
theorem mod_of_thr {p : Int} {pts : List (Int × Int)} {F : List Int} (th : Thr p pts F) {q : Int × Int} (m : q ∈ pts) (r : 0 ≤ q.2 ∧ q.2 < p) : peval F q.1 % p = q.2 := by
  have := (th.val q m).mod_eq
  rwa [Int.emod_eq_of_lt r.1 r.2] at this
/-- mended tells the row that was dealt -/
theorem mended_right {p h f wrong : Int} (t : Tb p h f) {pts : List (Int × Int)} (ok : PtOk p pts) {R : List Int} (lR : R.length = (f + 1).toNat) (rR : Rng p R) (hw : 0 ≤ wrong) (cR : ((liarsM p pts R).length : Int) ≤ wrong) (hl : f + 1 + 2 * wrong ≤ pts.length) {r : Res FV} (h : Mended p f wrong pts r) :
    r = .ok (.d (.tuple [.int (R.getD 0 0), .list ((liarsM p pts R).map .int)])) := by
  have tp := t.pos
  have f1 := t.f1
  rcases h with ⟨ch, F, hch, th, hc, rfl⟩ | ⟨_, hall⟩
  · have pl : (pick pts ch).length = (f + 1).toNat := by unfold pick; rw [List.length_map, (chM_ris _ _ ch hch).len]
    have e : F = R := same_row t ok (n := (f + 1).toNat) (a := wrong.toNat) (b := wrong.toNat) (by rw [th.len, pl]) lR th.rng rR (by omega) (by omega) (by omega)
    rw [e]
  · exfalso
    have cc : (pts.countP fun q => decide (peval R q.1 % p = q.2)) + (liarsM p pts R).length = pts.length := by
      rw [liarsM_count]
      have := List.length_eq_countP_add_countP (fun q : Int × Int => decide (peval R q.1 % p = q.2)) (l := pts)
      rw [this]
      congr 1
      refine List.countP_congr fun q _ => ?_
      simp
    obtain ⟨ch, ris, good⟩ := good_choice pts (fun q => decide (peval R q.1 % p = q.2)) (f + 1).toNat (by omega)
    obtain ⟨F, th, hF⟩ := hall ch (chM_all _ _ ch ris)
    have pl : (pick pts ch).length = (f + 1).toNat := by unfold pick; rw [List.length_map, ris.len]
    have pm := pick_mem ris
    have e : F = R := by
      refine row_unique t (by rw [th.len, pl, lR]) th.rng rR (xs := (pick pts ch).map fun q => q.1) (by rw [List.length_map, th.len]; exact Nat.le_refl _) (fun x m => ?_) (up_ne (pts_up_fst (pick_up ok.up ris))) (fun x m => ?_)
      · obtain ⟨q, hq, rfl⟩ := List.mem_map.mp m
        exact (ok.rng q (pm q hq)).1
      · obtain ⟨q, hq, rfl⟩ := List.mem_map.mp m
        have g := good q hq
        simp at g
        exact Cg.of_mod (by rw [mod_of_thr th hq (ok.rng q (pm q hq)).2, g])
    rw [e] at hF
    omega
/-! ### law k08 -/
structure Hurt (p h : Int) (R : List Int) (L : List Int) (S : List (Option Int)) (gone : Nat) : Prop where
  len : S.length = h.toNat
  nd : L.Pairwise (· ≠ ·)
  rng : ∀ a ∈ L, 1 ≤ a ∧ a ≤ h
  at_ : ∀ (j : Nat), j < h.toNat → (if (j : Int) + 1 ∈ L then ∃ v, S[j]? = some (some v) ∧ (0 ≤ v ∧ v < p) ∧ v ≠ peval R (j + 1) % p else (S[j]? = some (some (peval R (j + 1) % p)) ∨ S[j]? = some none))
  few : S.countP (·.isNone) ≤ gone
theorem shD_set (S : List (Option Int)) (i : Nat) (o : Option Int) : (S.map shD).set i (shD o) = (S.set i o).map shD := by rw [List.map_set]
theorem fit_shD (n : Nat) (S : List (Option Int)) : fit (n + 1) (.list (S.map shD)) = true := by
  show (S.map shD).all (fit n) = true
  rw [List.all_eq_true]
  intro x m
  obtain ⟨o, _, rfl⟩ := List.mem_map.mp m
  cases o <;> cases n <;> rfl
theorem run_law08 (ns : List Int) : run S_law_v7 [.sc ns] = .ok (.d (.bool true)) := by
  unfold S_law_v7 B_law_v7
  rw [run_mk]
  have t := tab_ok (cellAt ns 0)
  have tp := t.pos
  have t3 := t.h3
  have t7 := t.h7
  have thp := t.hp
  have f1 := t.f1
  have f2 := t.f2
  have fh := t.fh
  have hb := run_table_by (cellAt ns 0)
  generalize tabP (cellAt ns 0) = p at *
  generalize tabH (cellAt ns 0) = h at *
  generalize tabF (cellAt ns 0) = f at *
  have rl := numbersM_length (cellAt ns 1) (f + 1).toNat p
  have rR : Rng p (numbersM (cellAt ns 1) (f + 1).toNat p) := fun c m => by
    obtain ⟨k, _, rfl⟩ := List.mem_map.mp m
    exact mixM_lt _ _ (by omega)
  have hn := run_numbers (cellAt ns 1) (f + 1) p (by omega) (by omega) (by omega)
  generalize numbersM (cellAt ns 1) (f + 1).toNat p = R at *
  refine step_nx (e' := [.va (.f (.sc ns)), .va (.f (tbl p h f)), .no, .no, .no, .no, .no, .no, .no, .no, .no, .no, .no, .no]) (by simp (disch := first | rfl | assumption | omega | simp [*]) [hb]) ?_
  refine step_nx (e' := [.va (.f (.sc ns)), .va (.f (tbl p h f)), .va (.f (.d (.list (R.map .int)))), .no, .no, .no, .no, .no, .no, .no, .no, .no, .no, .no]) (by simp (disch := first | rfl | assumption | omega | simp [*]) [hn]) ?_
  have hsh : (rngP 1 h.toNat).map (fun x => PyData.int (peval R (unI x) % p)) = (((List.range h.toNat).map fun (k : Nat) => some (peval R (1 + (k : Int)) % p)).map shD) := by
    rw [map_rng fun x => peval R x % p, List.map_map, List.map_map]
    rfl
  refine step_nx (e' := [.va (.f (.sc ns)), .va (.f (tbl p h f)), .va (.f (.d (.list (R.map .int)))), .va (SV.dl (((List.range h.toNat).map fun (k : Nat) => some (peval R (1 + (k : Int)) % p)).map shD)), .no, .no, .no, .no, .no, .no, .no, .no, .no, .no]) ?_ ?_
  · rw [vSetO_ap, comp_dl (items := rngP 1 h.toNat) (fun x => .int (peval R (unI x) % p))]
    · rw [hsh]
      simp
    · simp (disch := first | rfl | assumption | omega | simp [*])
    · rw [rngP_length]; omega
    · intro x hx
      obtain ⟨i, hi, rfl⟩ := rngP_mem hx
      refine ⟨_, gN_ap (t := .no) rfl rfl, ?_⟩
      have hw := run_lworth p (1 + (i : Int)) R (by omega) (by omega)
      rw [vCall_raw]
      simp (disch := first | rfl | assumption | omega | simp [*])
      exact runO_flat rfl hw
  have l0 := Int.emod_nonneg (cellAt ns 2) (show (h - f - 1) / 2 + 1 ≠ 0 by omega)
  have l1 := Int.emod_lt_of_pos (cellAt ns 2) (show 0 < (h - f - 1) / 2 + 1 by omega)
  refine step_nx (e' := [.va (.f (.sc ns)), .va (.f (tbl p h f)), .va (.f (.d (.list (R.map .int)))), .va (SV.dl (((List.range h.toNat).map fun (k : Nat) => some (peval R (1 + (k : Int)) % p)).map shD)), .va (.f (.d (.int (cellAt ns 2 % ((h - f - 1) / 2 + 1))))), .no, .no, .no, .no, .no, .no, .no, .no, .no]) (by simp (disch := first | rfl | assumption | omega | simp [*])) ?_
  generalize cellAt ns 2 % ((h - f - 1) / 2 + 1) = let_ at *
  have a0 := Int.emod_nonneg (cellAt ns 3) (show h ≠ 0 by omega)
  have a1 := Int.emod_lt_of_pos (cellAt ns 3) (show 0 < h by omega)
  refine step_nx (e' := [.va (.f (.sc ns)), .va (.f (tbl p h f)), .va (.f (.d (.list (R.map .int)))), .va (SV.dl (((List.range h.toNat).map fun (k : Nat) => some (peval R (1 + (k : Int)) % p)).map shD)), .va (.f (.d (.int let_))), .va (.f (.d (.int (cellAt ns 3 % h)))), .no, .no, .no, .no, .no, .no, .no, .no]) (by simp (disch := first | rfl | assumption | omega | simp [*])) ?_
  generalize cellAt ns 3 % h = first_ at *
  refine step_nx (e' := [.va (.f (.sc ns)), .va (.f (tbl p h f)), .va (.f (.d (.list (R.map .int)))), .va (SV.dl (((List.range h.toNat).map fun (k : Nat) => some (peval R (1 + (k : Int)) % p)).map shD)), .va (.f (.d (.int let_))), .va (.f (.d (.int first_))), .va (SV.dl (([] : List Int).map .int)), .no, .no, .no, .no, .no, .no, .no]) (by simp (disch := first | rfl | assumption | omega | simp [*])) ?_
  have b0 := Int.emod_nonneg (cellAt ns 4) (show let_ + 1 ≠ 0 by omega)
  have b1 := Int.emod_lt_of_pos (cellAt ns 4) (show 0 < let_ + 1 by omega)
  obtain ⟨I, hI⟩ : ∃ I : Nat → Env → Prop, ∀ j e, I j e ↔ ∃ L S s7 s8 s9, (free s7 = true ∧ free s8 = true ∧ free s9 = true) ∧ Hurt p h R L S 0 ∧ L.length ≤ j ∧ e = [.va (.f (.sc ns)), .va (.f (tbl p h f)), .va (.f (.d (.list (R.map .int)))), .va (SV.dl (S.map shD)), .va (.f (.d (.int let_))), .va (.f (.d (.int first_))), .va (SV.dl (L.map .int)), s7, s8, s9, .no, .no, .no, .no] := ⟨_, fun _ _ => Iff.rfl⟩
  refine step_wp (P := I (cellAt ns 4 % (let_ + 1)).toNat) ?_ fun e he => ?_
  · simp (disch := first | rfl | assumption | omega | simp [*])
    refine wp_for I ?_ ?_ ?_
    · refine (hI _ _).mpr ⟨[], ((List.range h.toNat).map fun (k : Nat) => some (peval R (1 + (k : Int)) % p)), .no, .no, .no, ⟨rfl, rfl, rfl⟩, ⟨?_, ?_, ?_, ?_, ?_⟩, by simp, by rw [List.map_map]; rfl⟩
      · simp
      · exact List.Pairwise.nil
      · intro a m; cases m
      · intro j hj
        rw [if_neg (by simp)]
        left
        rw [List.getElem?_map, List.getElem?_range hj]
        simp [Int.add_comm]
      · rw [Nat.le_zero_eq, List.countP_eq_zero]
        intro o m
        obtain ⟨k, _, rfl⟩ := List.mem_map.mp m
        simp
    · intro i x e hx h1
      obtain ⟨L, S, s7, s8, s9, ⟨h7, h8, h9⟩, hu, Ll, rfl⟩ := (hI _ _).mp h1
      obtain ⟨hi, rfl⟩ := rng_get hx
      have p0 := Int.emod_nonneg (first_ + 2 * (i : Int)) (show h ≠ 0 by omega)
      have p1 := Int.emod_lt_of_pos (first_ + 2 * (i : Int)) (show 0 < h by omega)
      rw [gN_ap (t := s7) rfl h7, oW_some]
      simp (disch := first | rfl | assumption | omega | simp [*]) [h8]
      generalize (first_ + 2 * (i : Int)) % h = place at *
      by_cases hm : place + 1 ∈ L
      · simp [hm]
        exact (hI _ _).mpr ⟨L, S, _, _, s9, ⟨rfl, rfl, h9⟩, hu, by omega, rfl⟩
      · have hmix := run_mix (cellAt ns 5) i (p - 1) (by omega)
        have mm := mixM_lt (cellAt ns 5) (i : Int) (show 0 < p - 1 by omega)
        generalize mixM (cellAt ns 5) (i : Int) (p - 1) = far at *
        have hat := hu.at_ place.toNat (by omega)
        rw [show ((place.toNat : Nat) : Int) = place by omega, if_neg hm] at hat
        have hat2 : S[place.toNat]? = some (some (peval R (place + 1) % p)) := by
          rcases hat with q | q
          · exact q
          · exfalso
            have c0 : S.countP (·.isNone) = 0 := by have := hu.few; omega
            rw [List.countP_eq_zero] at c0
            have := c0 none (List.mem_of_getElem? q)
            simp at this
        have hS : atI (S.map shD) place = some (.int (peval R (place + 1) % p)) := by
          rw [atI_pos p0, List.getElem?_map, hat2]; rfl
        have hpl := plS_dl 3 [] (S.map shD) place _ hS
        have sl : place < ((S.map shD).length : Int) := by rw [List.length_map, hu.len]; omega
        have Lb : (L.map PyData.int).length < 16777216 := by rw [List.length_map]; omega
        have w0 := Int.emod_nonneg (peval R (place + 1)) (show p ≠ 0 by omega)
        have w1 := Int.emod_lt_of_pos (peval R (place + 1)) (show 0 < p by omega)
        simp (disch := first | rfl | assumption | omega | simp [*]) [hm, hmix, h9, hpl]
        refine (hI _ _).mpr ⟨L ++ [place + 1], S.set place.toNat (some ((peval R (place + 1) + (1 + far)) % p)), _, _, _, ⟨rfl, rfl, rfl⟩, ?_, by simp; omega, by rw [← shD_set, List.map_append]; rfl⟩
        refine ⟨by rw [List.length_set, hu.len], List.pairwise_append.mpr ⟨hu.nd, List.pairwise_singleton _ _, fun a ma b mb => ?_⟩, fun a ma => ?_, fun j hj => ?_, ?_⟩
        · have e : b = place + 1 := by simpa using mb
          rw [e]; exact fun z => hm (z ▸ ma)
        · rcases List.mem_append.mp ma with z | z
          · exact hu.rng a z
          · have e : a = place + 1 := by simpa using z
            omega
        · by_cases hjp : j = place.toNat
          · subst hjp
            rw [show ((place.toNat : Nat) : Int) = place by omega, if_pos (by simp)]
            refine ⟨_, List.getElem?_set_self (by rw [hu.len]; omega), ⟨Int.emod_nonneg _ (by omega), Int.emod_lt_of_pos _ (by omega)⟩, fun z => ?_⟩
            obtain ⟨k, hk⟩ := Cg.of_mod z
            have := cg_small (p := p) (a := 1 + far) ⟨k, by omega⟩ (by omega) (by omega)
            omega
          · have hjm : ((j : Int) + 1 ∈ L ++ [place + 1]) ↔ ((j : Int) + 1 ∈ L) := by
              constructor
              · intro m
                rcases List.mem_append.mp m with z | z
                · exact z
                · have e : (j : Int) + 1 = place + 1 := by simpa using z
                  omega
              · intro m; exact List.mem_append_left _ m
            have := hu.at_ j hj
            rw [List.getElem?_set_ne (by omega)]
            by_cases q : (j : Int) + 1 ∈ L
            · rw [if_pos q] at this; rw [if_pos (hjm.mpr q)]; exact this
            · rw [if_neg q] at this; rw [if_neg (fun z => q (hjm.mp z))]; exact this
        · have c0 : S.countP (·.isNone) = 0 := by have := hu.few; omega
          rw [List.countP_eq_zero] at c0
          rw [Nat.le_zero_eq, List.countP_eq_zero]
          intro o mo
          rcases List.mem_or_eq_of_mem_set mo with z | z
          · exact c0 o z
          · rw [z]; simp
    · intro e h1; rwa [rngP_length] at h1
  obtain ⟨L, S, s7, s8, s9, ⟨h7, h8, h9⟩, hu, Ll, rfl⟩ := (hI _ _).mp he
  have g0 := Int.emod_nonneg (cellAt ns 6) (show h - f - 2 * let_ ≠ 0 by omega)
  have g1 := Int.emod_lt_of_pos (cellAt ns 6) (show 0 < h - f - 2 * let_ by omega)
  refine step_nx (e' := [.va (.f (.sc ns)), .va (.f (tbl p h f)), .va (.f (.d (.list (R.map .int)))), .va (SV.dl (S.map shD)), .va (.f (.d (.int let_))), .va (.f (.d (.int first_))), .va (SV.dl (L.map .int)), s7, s8, s9, .va (.f (.d (.int (cellAt ns 6 % (h - f - 2 * let_))))), .no, .no, .no]) (by simp (disch := first | rfl | assumption | omega | simp [*])) ?_
  generalize cellAt ns 6 % (h - f - 2 * let_) = gone at *
  refine step_nx (e' := [.va (.f (.sc ns)), .va (.f (tbl p h f)), .va (.f (.d (.list (R.map .int)))), .va (SV.dl (S.map shD)), .va (.f (.d (.int let_))), .va (.f (.d (.int first_))), .va (.f (.d (.list (L.map .int)))), s7, s8, s9, .va (.f (.d (.int gone))), .no, .no, .no]) (by simp) ?_
  obtain ⟨J, hJ⟩ : ∃ J : Nat → Env → Prop, ∀ j e, J j e ↔ ∃ S s7 s8 s9, (free s7 = true ∧ free s8 = true ∧ free s9 = true) ∧ Hurt p h R L S j ∧ e = [.va (.f (.sc ns)), .va (.f (tbl p h f)), .va (.f (.d (.list (R.map .int)))), .va (SV.dl (S.map shD)), .va (.f (.d (.int let_))), .va (.f (.d (.int first_))), .va (.f (.d (.list (L.map .int)))), s7, s8, s9, .va (.f (.d (.int gone))), .no, .no, .no] := ⟨_, fun _ _ => Iff.rfl⟩
  refine step_wp (P := J gone.toNat) ?_ fun e he => ?_
  · simp (disch := first | rfl | assumption | omega | simp [*])
    refine wp_for J ?_ ?_ ?_
    · exact (hJ _ _).mpr ⟨S, s7, s8, s9, ⟨h7, h8, h9⟩, hu, rfl⟩
    · intro i x e hx h1
      obtain ⟨S, s7, s8, s9, ⟨h7, h8, h9⟩, hu, rfl⟩ := (hJ _ _).mp h1
      obtain ⟨hi, rfl⟩ := rng_get hx
      have p0 := Int.emod_nonneg (first_ + 1 + 2 * (i : Int)) (show h ≠ 0 by omega)
      have p1 := Int.emod_lt_of_pos (first_ + 1 + 2 * (i : Int)) (show 0 < h by omega)
      rw [gN_ap (t := s7) rfl h7, oW_some]
      simp (disch := first | rfl | assumption | omega | simp [*]) [h8]
      generalize (first_ + 1 + 2 * (i : Int)) % h = place at *
      by_cases hm : place + 1 ∈ L
      · simp [hm]
        refine (hJ _ _).mpr ⟨S, _, _, s9, ⟨rfl, rfl, h9⟩, ⟨hu.len, hu.nd, hu.rng, hu.at_, by have := hu.few; omega⟩, rfl⟩
      · have sl : place < ((S.map shD).length : Int) := by rw [List.length_map, hu.len]; omega
        simp (disch := first | rfl | assumption | omega | simp [*]) [hm]
        refine (hJ _ _).mpr ⟨S.set place.toNat none, .va (.f (.d (.int i))), .va (.f (.d (.int place))), dv s9, ⟨rfl, rfl, by simpa using h9⟩, ?_, by rw [← shD_set]; rfl⟩
        refine ⟨by rw [List.length_set, hu.len], hu.nd, hu.rng, fun j hj => ?_, Nat.le_trans (countP_set_le _ _ _ _) (by have := hu.few; omega)⟩
        have := hu.at_ j hj
        by_cases hjp : j = place.toNat
        · subst hjp
          rw [show ((place.toNat : Nat) : Int) = place by omega, if_neg hm]
          exact .inr (List.getElem?_set_self (by rw [hu.len]; omega))
        · rw [List.getElem?_set_ne (by omega)]
          exact this
    · intro e h1; rwa [rngP_length] at h1
  obtain ⟨S, s7, s8, s9, ⟨h7, h8, h9⟩, hu, rfl⟩ := (hJ _ _).mp he
  refine step_nx (e' := [.va (.f (.sc ns)), .va (.f (tbl p h f)), .va (.f (.d (.list (R.map .int)))), .va (.f (.d (.list (S.map shD)))), .va (.f (.d (.int let_))), .va (.f (.d (.int first_))), .va (.f (.d (.list (L.map .int)))), s7, s8, s9, .va (.f (.d (.int gone))), .no, .no, .no]) (by simp) ?_
  refine step_nx (e' := [.va (.f (.sc ns)), .va (.f (tbl p h f)), .va (.f (.d (.list (R.map .int)))), .va (.f (.d (.list (S.map shD)))), .va (.f (.d (.int let_))), .va (.f (.d (.int first_))), .va (.f (.d (.list (L.map .int)))), s7, s8, s9, .va (.f (.d (.int gone))), .va (.f (.d (.list (S.map shD)))), .no, .no]) (by simp) ?_
  have ok : PtOk p (ptsO 1 S) := ⟨(fun q m => by
    obtain ⟨i, h1, h2⟩ := (ptsO_mem S 1 q).mp m
    have il : i < S.length := (List.getElem?_eq_some_iff.mp h1).1
    rw [hu.len] at il
    have := hu.at_ i il
    refine ⟨⟨by omega, by omega⟩, ?_⟩
    by_cases z : (i : Int) + 1 ∈ L
    · rw [if_pos z] at this
      obtain ⟨v, e1, r, _⟩ := this
      rw [h1] at e1; cases e1; exact r
    · rw [if_neg z] at this
      rcases this with e1 | e1
      · rw [h1] at e1
        have e2 := Option.some.inj (Option.some.inj e1)
        rw [e2]; exact ⟨Int.emod_nonneg _ (by omega), Int.emod_lt_of_pos _ (by omega)⟩
      · rw [h1] at e1
        cases e1), ptsO_up S 1⟩
  have lz : liarsM p (ptsO 1 S) R = srtI L := by
    refine sorted_ext _ _ ?_ (srt_lt hu.nd) fun x => ?_
    · unfold liarsM
      exact pts_up_fst (ok.up.filter _)
    · rw [(srtI_perm L).mem_iff]
      unfold liarsM
      rw [List.mem_map]
      constructor
      · rintro ⟨q, hq, rfl⟩
        obtain ⟨m1, m2⟩ := List.mem_filter.mp hq
        simp at m2
        obtain ⟨i, h1, h2⟩ := (ptsO_mem S 1 q).mp m1
        have il : i < S.length := (List.getElem?_eq_some_iff.mp h1).1
        rw [hu.len] at il
        have := hu.at_ i il
        rw [show q.1 = (i : Int) + 1 by omega] at m2 ⊢
        by_cases z : (i : Int) + 1 ∈ L
        · exact z
        · exfalso
          rw [if_neg z] at this
          rcases this with e1 | e1
          · rw [h1] at e1
            exact m2 (Option.some.inj (Option.some.inj e1)).symm
          · rw [h1] at e1; cases e1
      · intro m
        have r := hu.rng x m
        have := hu.at_ (x - 1).toNat (by omega)
        rw [show (((x - 1).toNat : Nat) : Int) + 1 = x by omega, if_pos m] at this
        obtain ⟨v, e1, _, ne⟩ := this
        refine ⟨(x, v), List.mem_filter.mpr ⟨(ptsO_mem S 1 _).mpr ⟨(x - 1).toNat, e1, by show x = _; omega⟩, ?_⟩, rfl⟩
        simp
        exact fun z => ne z.symm
  have pl := ptsO_length S 1
  have hfew := hu.few
  have md := (run_mended p h f let_ t S (by rw [hu.len]; omega) ok (by omega)).2 (by rw [hu.len] at pl; omega)
  have mr := mended_right t ok rl rR (by omega) (by rw [lz, (srtI_perm L).length_eq]; omega) (by rw [hu.len] at pl; omega) md
  rw [lz] at mr
  have hne := cop_ne 1 (fit_shD 0 S) (fit_shD 0 S)
  have R0 : atI (R.map PyData.int) 0 = some (.int (R.getD 0 0)) := by
    have Fl : 0 < R.length := by omega
    rw [atI_pos (by omega), List.getElem?_map, show (0 : Int).toNat = 0 from rfl]
    simp only [List.getD, List.getElem?_eq_getElem Fl, Option.getD_some]
    rfl
  refine step_nx (e' := [.va (.f (.sc ns)), .va (.f (tbl p h f)), .va (.f (.d (.list (R.map .int)))), .va (.f (.d (.list (S.map shD)))), .va (.f (.d (.int let_))), .va (.f (.d (.int first_))), .va (.f (.d (.list (L.map .int)))), s7, s8, s9, .va (.f (.d (.int gone))), .va (.f (.d (.list (S.map shD)))), .va (.f (.d (.tuple [.int (R.getD 0 0), .list ((srtI L).map .int)]))), .no]) ?_ ?_
  · simp (disch := first | rfl | assumption | omega | simp [*]) [mr]
  · have a0 : ∀ a b : PyData, atI ([a, b] : List PyData) 0 = some a := fun a b => rfl
    have a1 : ∀ a b : PyData, atI ([a, b] : List PyData) 1 = some b := fun a b => rfl
    generalize hr0 : R.getD 0 0 = r0 at *
    simp (disch := first | rfl | assumption | omega | simp [*]) [hne, a0, a1, R0]
theorem law08 : ∀ ns : List Int, ns.length ≤ 63 → ∃ a, S_law_v7 [.va (.f (.sc ns))] = .ret (.f (.d (.bool true))) a := fun ns _ => law_end (run_law08 ns)
end VL

set_option Elab.async false
set_option linter.all false
set_option maxRecDepth 100000
set_option maxHeartbeats 4000000
namespace VL
open PySem PySem.Spec PyProof.Rows L2

/-! ### the row through points, by sums of products -/
def linG (b c : Int) : List Int → List Int
  | [] => [c]
  | r :: R => (c - b * r) :: linG b r R
theorem linG_length (b : Int) : ∀ (R : List Int) (c : Int), (linG b c R).length = R.length + 1
  | [], _ => rfl
  | r :: R, c => by show (linG b r R).length + 1 = _; rw [linG_length b R r]; rfl
theorem linG_val (b x : Int) : ∀ (R : List Int) (c : Int), peval (linG b c R) x = c + (x - b) * peval R x
  | [], c => by show c + x * 0 = c + (x - b) * 0; omega
  | r :: R, c => by
    show c - b * r + x * peval (linG b r R) x = c + (x - b) * (r + x * peval R x)
    rw [linG_val b x R r]
    grind
def ptX (pts : List (Int × Int)) (i : Nat) : Int := (pts.getD i (0, 0)).1
def ptY (pts : List (Int × Int)) (i : Nat) : Int := (pts.getD i (0, 0)).2
/-- the product over the others, so far -/
def basI (pts : List (Int × Int)) (j : Nat) : Nat → List Int
  | 0 => [1]
  | i + 1 => if i = j then basI pts j i else linG (ptX pts i) 0 (basI pts j i)
theorem basI_length (pts : List (Int × Int)) (j : Nat) : ∀ i, (basI pts j i).length = if j < i then i else i + 1
  | 0 => rfl
  | i + 1 => by
    have ih := basI_length pts j i
    unfold basI
    by_cases h : i = j
    · subst h
      rw [if_pos rfl, ih, if_neg (by omega), if_pos (by omega)]
    · rw [if_neg h, linG_length, ih]
      by_cases q : j < i
      · rw [if_pos q, if_pos (by omega)]
      · rw [if_neg q, if_neg (by omega)]
theorem basI_step (pts : List (Int × Int)) (j i : Nat) (h : i ≠ j) (x : Int) : peval (basI pts j (i + 1)) x = (x - ptX pts i) * peval (basI pts j i) x := by
  show peval (if i = j then basI pts j i else linG (ptX pts i) 0 (basI pts j i)) x = _
  rw [if_neg h, linG_val, Int.zero_add]
theorem basI_self (pts : List (Int × Int)) (j : Nat) : basI pts j (j + 1) = basI pts j j := by
  show (if j = j then basI pts j j else linG (ptX pts j) 0 (basI pts j j)) = _
  rw [if_pos rfl]
theorem basI_zero (pts : List (Int × Int)) (j m : Nat) (h : m ≠ j) : ∀ i, m < i → peval (basI pts j i) (ptX pts m) = 0
  | 0, hm => by omega
  | i + 1, hm => by
    by_cases q : i = j
    · subst q
      rw [basI_self]
      exact basI_zero pts i m h i (by omega)
    · rw [basI_step pts j i q]
      by_cases w : m = i
      · subst w
        rw [Int.sub_self, Int.zero_mul]
      · rw [basI_zero pts j m h i (by omega), Int.mul_zero]
theorem ptX_ne {pts : List (Int × Int)} (up : pts.Pairwise fun a b => a.1 < b.1) {i j : Nat} (hi : i < pts.length) (hj : j < pts.length) (h : i ≠ j) : ptX pts i ≠ ptX pts j := by
  unfold ptX
  simp only [List.getD, List.getElem?_eq_getElem hi, List.getElem?_eq_getElem hj, Option.getD_some]
  rcases Nat.lt_or_gt_of_ne h with q | q
  · have := (List.pairwise_iff_getElem.mp up) _ _ hi hj q; omega
  · have := (List.pairwise_iff_getElem.mp up) _ _ hj hi q; omega
theorem pt_at {pts : List (Int × Int)} {i : Nat} (hi : i < pts.length) : pts[i]? = some (ptX pts i, ptY pts i) := by
  unfold ptX ptY
  simp only [List.getD, List.getElem?_eq_getElem hi, Option.getD_some]
theorem ptX_rng {p : Int} {pts : List (Int × Int)} (ok : PtOk p pts) {i : Nat} (hi : i < pts.length) : (0 ≤ ptX pts i ∧ ptX pts i < p) ∧ (0 ≤ ptY pts i ∧ ptY pts i < p) :=
  ok.rng (ptX pts i, ptY pts i) (List.mem_of_getElem? (pt_at hi))
theorem basI_nz {p h f : Int} (t : Tb p h f) {pts : List (Int × Int)} (ok : PtOk p pts) {j : Nat} (hj : j < pts.length) : ∀ i, i ≤ pts.length → ¬ Cg p (peval (basI pts j i) (ptX pts j)) 0
  | 0, _ => by
    intro h0
    have tp := t.pos
    have := cg_small (a := 1 + ptX pts j * 0) h0 (by omega) (by omega)
    omega
  | i + 1, hi => by
    by_cases q : i = j
    · subst q
      rw [basI_self]
      exact basI_nz t ok hj i (by omega)
    · rw [basI_step pts j i q]
      intro h0
      exact basI_nz t ok hj i (by omega) (nz_diff t (ptX_rng ok hj).1 (ptX_rng ok (by omega : i < pts.length)).1 (ptX_ne ok.up hj (by omega) (Ne.symm q)) h0)
theorem bk_mod {p h f a : Int} (t : Tb p h f) (ha : ¬ Cg p a 0) : Cg p (bk p (a % p) * a) 1 := by
  have tp := t.pos
  have a0 := Int.emod_nonneg a (show p ≠ 0 by omega)
  have a1 := Int.emod_lt_of_pos a (show 0 < p by omega)
  have a2 : a % p ≠ 0 := fun z => ha (Cg.of_mod (by rw [z]; simp))
  have bo := bk_ok t (n := a % p) (by omega) (by omega)
  exact ((Cg.refl p _).mul (Cg.emod p a).symm).trans (Cg.of_mod (by rw [bo, Int.emod_eq_of_lt (by omega) (by omega)]))
/-- two rows added, one by a factor -/
def addC (c : Int) (F G : List Int) : List Int := (F.zip G).map fun x => x.1 + c * x.2
theorem addC_length (c : Int) (F G : List Int) (h : F.length = G.length) : (addC c F G).length = F.length := by unfold addC; simp [h]
theorem addC_val (c x : Int) : ∀ F G : List Int, F.length = G.length → peval (addC c F G) x = peval F x + c * peval G x
  | [], [], _ => by show (0 : Int) = 0 + c * 0; omega
  | [], _ :: _, h => by cases h
  | _ :: _, [], h => by cases h
  | a :: F, b :: G, h => by
    have ih := addC_val c x F G (by simpa using h)
    show a + c * b + x * peval (addC c F G) x = a + x * peval F x + c * (b + x * peval G x)
    rw [ih]; grind
def undM (p : Int) (pts : List (Int × Int)) (j : Nat) : Int := peval (basI pts j pts.length) (ptX pts j) % p
def lagI (p : Int) (pts : List (Int × Int)) : Nat → List Int
  | 0 => List.replicate pts.length 0
  | j + 1 => addC (ptY pts j * bk p (undM p pts j)) (lagI p pts j) (basI pts j pts.length)
theorem lagI_length (p : Int) (pts : List (Int × Int)) : ∀ j, j ≤ pts.length → (lagI p pts j).length = pts.length
  | 0, _ => List.length_replicate
  | j + 1, h => by
    have ih := lagI_length p pts j (by omega)
    show (addC _ (lagI p pts j) (basI pts j pts.length)).length = _
    rw [addC_length, ih]
    rw [ih, basI_length, if_pos (by omega)]
theorem lagI_step (p x : Int) (pts : List (Int × Int)) (j : Nat) (h : j < pts.length) : peval (lagI p pts (j + 1)) x = peval (lagI p pts j) x + ptY pts j * bk p (undM p pts j) * peval (basI pts j pts.length) x := by
  show peval (addC _ (lagI p pts j) (basI pts j pts.length)) x = _
  rw [addC_val]
  rw [lagI_length p pts j (by omega), basI_length, if_pos h]
theorem lagI_at {p h f : Int} (t : Tb p h f) {pts : List (Int × Int)} (ok : PtOk p pts) {m : Nat} (hm : m < pts.length) : ∀ j, j ≤ pts.length → Cg p (peval (lagI p pts j) (ptX pts m)) (if m < j then ptY pts m else 0)
  | 0, _ => by
    rw [if_neg (by omega)]
    show Cg p (peval (List.replicate pts.length 0) _) 0
    rw [peval_rep]
    exact Cg.refl _ _
  | j + 1, hj => by
    have ih := lagI_at t ok hm j (by omega)
    rw [lagI_step p _ pts j (by omega)]
    by_cases q : m = j
    · subst q
      rw [if_neg (by omega)] at ih
      rw [if_pos (by omega)]
      have b := bk_mod t (basI_nz t ok hm pts.length (Nat.le_refl _))
      have c := ih.add ((Cg.refl p (ptY pts m)).mul b)
      rw [Int.zero_add, Int.mul_one] at c
      rw [Int.mul_assoc]
      exact c
    · rw [basI_zero pts j m q pts.length hm, Int.mul_zero, Int.add_zero]
      by_cases w : m < j
      · rw [if_pos w] at ih; rw [if_pos (by omega)]; exact ih
      · rw [if_neg w] at ih; rw [if_neg (by omega)]; exact ih
theorem zr_val {p x : Int} : ∀ D : List Int, Zr p D → Cg p (peval D x) 0
  | [], _ => Cg.refl _ _
  | d :: D, h => by
    have a := h d List.mem_cons_self
    have b := zr_val (x := x) D fun c m => h c (List.mem_cons_of_mem _ m)
    have := a.add ((Cg.refl p x).mul b)
    rw [Int.mul_zero, Int.add_zero] at this
    exact this
/-- that row and any other through the points -/
theorem lag_thr {p h f : Int} (t : Tb p h f) {pts : List (Int × Int)} (ok : PtOk p pts) {F : List Int} (th : Thr p pts F) (x : Int) : Cg p (peval (lagI p pts pts.length) x) (peval F x) := by
  have ll := lagI_length p pts pts.length (Nat.le_refl _)
  have z : Zr p (subL (lagI p pts pts.length) F) := by
    refine roots_zr t (pts.map fun q => q.1) _ (by unfold subL; simp [ll]; omega) (fun y m => ?_) (up_ne (pts_up_fst ok.up)) (fun y m => ?_)
    · obtain ⟨q, hq, rfl⟩ := List.mem_map.mp m
      exact (ok.rng q hq).1
    · obtain ⟨q, hq, rfl⟩ := List.mem_map.mp m
      obtain ⟨i, hi, e⟩ := List.getElem_of_mem hq
      have v1 := lagI_at t ok hi pts.length (Nat.le_refl _)
      rw [if_pos hi] at v1
      have e2 := pt_at hi
      rw [List.getElem?_eq_getElem hi, e] at e2
      have e3 := Option.some.inj e2
      have v2 := th.val q hq
      rw [subL_val _ _ _ (by rw [ll, th.len])]
      rw [e3] at v2 ⊢
      obtain ⟨k, hk⟩ := v1
      obtain ⟨j, hj⟩ := v2
      exact ⟨k - j, by show peval _ (ptX pts i) - peval F (ptX pts i) = _; rw [hk]; have hj' : peval F (ptX pts i) = ptY pts i + p * j := hj; rw [hj']; grind⟩
  obtain ⟨k, hk⟩ := zr_val (x := x) _ z
  rw [subL_val _ _ _ (by rw [ll, th.len])] at hk
  exact ⟨k, by omega⟩
theorem emm2 (a b p : Int) : a * (b % p) % p = a * b % p := by rw [Int.mul_comm, emm, Int.mul_comm]
theorem run_lawat (p h f x : Int) (t : Tb p h f) (pts : List (Int × Int)) (ok : PtOk p pts) (hl : pts.length < 100) (hx : 0 ≤ x ∧ x < 100) :
    run S__law_at [.d (.int p), .d (.list (ptsP pts)), .d (.int x)] = .ok (.d (.int (peval (lagI p pts pts.length) x % p))) := by
  have tp := t.pos
  unfold S__law_at B__law_at
  rw [run_mk]
  have a0 : ∀ a b : Int, atI ([.int a, .int b] : List PyData) 0 = some (.int a) := fun a b => rfl
  have a1 : ∀ a b : Int, atI ([.int a, .int b] : List PyData) 1 = some (.int b) := fun a b => rfl
  have hpl := ptsP_length pts
  have get : ∀ (i : Nat) (d : PyData), (ptsP pts)[i]? = some d → i < pts.length ∧ d = .tuple [.int (ptX pts i), .int (ptY pts i)] := fun i d e => by
    have il : i < pts.length := by have := (List.getElem?_eq_some_iff.mp e).1; omega
    refine ⟨il, ?_⟩
    unfold ptsP at e
    rw [List.getElem?_map, pt_at il] at e
    exact (Option.some.inj e).symm
  obtain ⟨I, hI⟩ : ∃ I : Nat → Env → Prop, ∀ j e, I j e ↔ ∃ s4 s5 s6 s7 s8 s9 s10, (free s4 = true ∧ free s5 = true ∧ free s6 = true ∧ free s7 = true ∧ free s8 = true ∧ free s9 = true ∧ free s10 = true) ∧ e = [.va (.f (.d (.int p))), .va (.f (.d (.list (ptsP pts)))), .va (.f (.d (.int x))), .va (.f (.d (.int (peval (lagI p pts j) x % p)))), s4, s5, s6, s7, s8, s9, s10] := ⟨_, fun _ _ => Iff.rfl⟩
  simp (disch := first | rfl | assumption | omega | simp [*])
  refine fin_wp (wp_for I ?_ ?_ ?_)
  · refine (hI _ _).mpr ⟨.no, .no, .no, .no, .no, .no, .no, ⟨rfl, rfl, rfl, rfl, rfl, rfl, rfl⟩, ?_⟩
    rw [show peval (lagI p pts 0) x = 0 from peval_rep x _]
    simp
  · intro j y e hy h1
    obtain ⟨s4, s5, s6, s7, s8, s9, s10, ⟨h4, h5, h6, h7, h8, h9, h10⟩, rfl⟩ := (hI _ _).mp h1
    obtain ⟨d, hd, rfl⟩ := enum_get hy
    obtain ⟨jl, rfl⟩ := get j d hd
    have rj := ptX_rng ok jl
    simp (disch := first | rfl | assumption | omega | simp [*]) [a0, a1]
    obtain ⟨J, hJ⟩ : ∃ J : Nat → Env → Prop, ∀ i e, J i e ↔ ∃ s8 s9, (free s8 = true ∧ free s9 = true) ∧ e = [.va (.f (.d (.int p))), .va (.f (.d (.list (ptsP pts)))), .va (.f (.d (.int x))), .va (.f (.d (.int (peval (lagI p pts j) x % p)))), .va (.f (.d (.int j))), .va (.f (.d (.tuple [.int (ptX pts j), .int (ptY pts j)]))), .va (.f (.d (.int (ptY pts j * peval (basI pts j i) x % p)))), .va (.f (.d (.int (peval (basI pts j i) (ptX pts j) % p)))), s8, s9, s10] := ⟨_, fun _ _ => Iff.rfl⟩
    refine wp_imp (wp_for (P := J pts.length) J ?_ ?_ ?_) ?_
    · refine (hJ _ _).mpr ⟨s8, s9, ⟨h8, h9⟩, ?_⟩
      rw [show peval (basI pts j 0) x = 1 by show 1 + x * 0 = 1; omega, show peval (basI pts j 0) (ptX pts j) = 1 by show 1 + _ * 0 = 1; omega, Int.mul_one, show ptY pts j % p = ptY pts j from Int.emod_eq_of_lt rj.2.1 rj.2.2, show (1 : Int) % p = 1 from Int.emod_eq_of_lt (by omega) (by omega)]
    · intro i y e hy h2
      obtain ⟨s8, s9, ⟨h8, h9⟩, rfl⟩ := (hJ _ _).mp h2
      obtain ⟨d, hd, rfl⟩ := enum_get hy
      obtain ⟨il, rfl⟩ := get i d hd
      have ri := ptX_rng ok il
      by_cases q : (i : Int) = (j : Int)
      · have q' : i = j := by omega
        subst q'
        simp (disch := first | rfl | assumption | omega | simp [*]) [a0, a1]
        refine (hJ _ _).mpr ⟨.va (.f (.d (.int i))), .va (.f (.d (.tuple [.int (ptX pts i), .int (ptY pts i)]))), ⟨rfl, rfl⟩, ?_⟩
        rw [basI_self]
      · have w0 := Int.emod_nonneg (ptY pts j * peval (basI pts j i) x) (show p ≠ 0 by omega)
        have w1 := Int.emod_lt_of_pos (ptY pts j * peval (basI pts j i) x) (show 0 < p by omega)
        have w2 := Int.emod_nonneg (peval (basI pts j i) (ptX pts j)) (show p ≠ 0 by omega)
        have w3 := Int.emod_lt_of_pos (peval (basI pts j i) (ptX pts j)) (show 0 < p by omega)
        simp (disch := first | rfl | assumption | omega | simp [*]) [a0, a1, q]
        refine (hJ _ _).mpr ⟨.va (.f (.d (.int i))), .va (.f (.d (.tuple [.int (ptX pts i), .int (ptY pts i)]))), ⟨rfl, rfl⟩, ?_⟩
        rw [basI_step pts j i (by omega), basI_step pts j i (by omega)]
        rw [show ptY pts j * ((x - ptX pts i) * peval (basI pts j i) x) = ptY pts j * peval (basI pts j i) x * (x - ptX pts i) by grind]
        rw [show (ptX pts j - ptX pts i) * peval (basI pts j i) (ptX pts j) = peval (basI pts j i) (ptX pts j) * (ptX pts j - ptX pts i) by grind, emm, emm]
    · intro e h2; rwa [enumP_length, hpl] at h2
    · intro e h2
      obtain ⟨s8, s9, ⟨h8, h9⟩, rfl⟩ := (hJ _ _).mp h2
      rw [show peval (basI pts j pts.length) (ptX pts j) % p = undM p pts j from rfl]
      have u0 : 0 ≤ undM p pts j := Int.emod_nonneg _ (show p ≠ 0 by omega)
      have u1 : undM p pts j < p := Int.emod_lt_of_pos _ (show 0 < p by omega)
      generalize hov : ptY pts j * peval (basI pts j pts.length) x = ov
      obtain ⟨M, hM⟩ : ∃ M : Nat → Env → Prop, ∀ i e, M i e ↔ ∃ s10, free s10 = true ∧ e = [.va (.f (.d (.int p))), .va (.f (.d (.list (ptsP pts)))), .va (.f (.d (.int x))), .va (.f (.d (.int (peval (lagI p pts j) x % p)))), .va (.f (.d (.int j))), .va (.f (.d (.tuple [.int (ptX pts j), .int (ptY pts j)]))), .va (.f (.d (.int (ov * bkI p (undM p pts j) i % p)))), .va (.f (.d (.int (undM p pts j)))), s8, s9, s10] := ⟨_, fun _ _ => Iff.rfl⟩
      simp (disch := first | rfl | assumption | omega | simp [*]) [a0, a1]
      refine wp_imp (wp_for (P := M (p - 2).toNat) M ?_ ?_ ?_) ?_
      · refine (hM _ _).mpr ⟨s10, h10, ?_⟩
        rw [show bkI p (undM p pts j) 0 = 1 from rfl, Int.mul_one]
      · intro i y e hy h3
        obtain ⟨s10, h10, rfl⟩ := (hM _ _).mp h3
        obtain ⟨_, rfl⟩ := rng_get hy
        simp (disch := first | rfl | assumption | omega | simp [*]) [h10]
        refine (hM _ _).mpr ⟨.va (.f (.d (.int i))), rfl, ?_⟩
        rw [show bkI p (undM p pts j) (i + 1) = bkI p (undM p pts j) i * undM p pts j % p from rfl, emm2, ← Int.mul_assoc, emm]
      · intro e h3; rwa [rngP_length] at h3
      · intro e h3
        obtain ⟨s10, h10, rfl⟩ := (hM _ _).mp h3
        rw [show bkI p (undM p pts j) (p - 2).toNat = bk p (undM p pts j) from rfl]
        simp (disch := first | rfl | assumption | omega | simp [*])
        refine (hI _ _).mpr ⟨.va (.f (.d (.int j))), .va (.f (.d (.tuple [.int (ptX pts j), .int (ptY pts j)]))), .va (.f (.d (.int (ov * bk p (undM p pts j) % p)))), .va (.f (.d (.int (undM p pts j)))), s8, s9, s10, ⟨rfl, rfl, rfl, rfl, h8, h9, h10⟩, ?_⟩
        rw [lagI_step p x pts j jl, ← hov]
        rw [show ptY pts j * bk p (undM p pts j) * peval (basI pts j pts.length) x = ptY pts j * peval (basI pts j pts.length) x * bk p (undM p pts j) by grind]
  · intro e h1
    obtain ⟨s4, s5, s6, s7, s8, s9, s10, _, rfl⟩ := (hI _ _).mp h1
    rw [enumP_length, hpl]
    simp
end VL

set_option Elab.async false
set_option linter.all false
set_option maxRecDepth 100000
set_option maxHeartbeats 4000000
namespace VL
open PySem PySem.Spec PyProof.Rows L2

theorem fit_ptsP (n : Nat) (pts : List (Int × Int)) : (ptsP pts).all (fit (n + 1)) = true := by
  rw [List.all_eq_true]
  intro x m
  obtain ⟨q, _, rfl⟩ := List.mem_map.mp m
  cases n <;> rfl
theorem ptsP_any (a b : Int) (pts : List (Int × Int)) : ((ptsP pts).any fun z => PyData.eqv z (.tuple [.int a, .int b])) = decide ((a, b) ∈ pts) := by
  rw [Bool.eq_iff_iff, decide_eq_true_iff, List.any_eq_true]
  constructor
  · rintro ⟨x, m, h⟩
    obtain ⟨q, hq, rfl⟩ := List.mem_map.mp m
    have := (fit_eqv 2 _ _ rfl rfl).mp h
    injection this with e
    injection e with e1 e2
    injection e2 with e2 _
    injection e1 with e1
    injection e2 with e2
    rw [← e1, ← e2]; exact hq
  · intro m
    exact ⟨_, List.mem_map.mpr ⟨(a, b), m, rfl⟩, (fit_eqv 2 _ _ rfl rfl).mpr rfl⟩
theorem cop_notin_pts (a b : Int) (pts : List (Int × Int)) : Cop.h .notin (.tuple [.int a, .int b]) (.list (ptsP pts)) = .ok (.d (.bool (!decide ((a, b) ∈ pts)))) := by
  rw [show Cop.h .notin (.tuple [.int a, .int b]) (.list (ptsP pts)) = inP true (.tuple [.int a, .int b]) (.list (ptsP pts)) from rfl]
  unfold inP
  dsimp only
  rw [if_neg (fun h => by cases h.1), if_pos ⟨fit_shaped (n := 2) rfl (by decide), fit_shaped (n := 3) (fit_ptsP 1 pts) (by decide)⟩, ptsP_any]
  rfl
/-- who doesn't fit -/
theorem run_bad (p h f : Int) (t : Tb p h f) (pts base : List (Int × Int)) (ok : PtOk p pts) (ob : PtOk p base) (hl : pts.length < 100) (hb : base.length < 100) {F : List Int} (th : Thr p base F) :
    run S__law_bad [.d (.int p), .d (.list (ptsP pts)), .d (.list (ptsP base))] = .ok (.d (.list ((liarsM p pts F).map .int))) := by
  have tp := t.pos
  have key : runO S__law_bad [.d (.int p), .d (.list (ptsP pts)), .d (.list (ptsP base))] = .ok (SV.dl ((liarsM p pts F).map .int)) := by
    unfold S__law_bad B__law_bad
    rw [runO_mk]
    obtain ⟨I, hI⟩ : ∃ I : Nat → Env → Prop, ∀ j e, I j e ↔ ∃ s4 s5, (free s4 = true ∧ free s5 = true) ∧ e = [.va (.f (.d (.int p))), .va (.f (.d (.list (ptsP pts)))), .va (.f (.d (.list (ptsP base)))), .va (SV.dl ((liarsM p (pts.take j) F).map .int)), s4, s5] := ⟨_, fun _ _ => Iff.rfl⟩
    simp (disch := first | rfl | assumption | omega | simp [*])
    refine finO_wp (wp_for I ?_ ?_ ?_)
    · exact (hI _ _).mpr ⟨.no, .no, ⟨rfl, rfl⟩, rfl⟩
    · intro j y e hy h1
      obtain ⟨s4, s5, ⟨h4, h5⟩, rfl⟩ := (hI _ _).mp h1
      unfold ptsP at hy
      rw [List.getElem?_map] at hy
      cases hj : pts[j]? with
      | none => rw [hj] at hy; cases hy
      | some q =>
        rw [hj] at hy
        cases hy
        have jl : j < pts.length := (List.getElem?_eq_some_iff.mp hj).1
        have rq := ok.rng q (List.mem_of_getElem? hj)
        have thp := t.hp
        have ti : p ≤ 31 := tp.2
        have ha := run_lawat p h f q.1 t base ob hb ⟨rq.1.1, by omega⟩
        rw [(lag_thr t ob th q.1).mod_eq] at ha
        have hn := cop_notin_pts q.1 q.2 base
        have tk : liarsM p (pts.take (j + 1)) F = liarsM p (pts.take j) F ++ (if peval F q.1 % p ≠ q.2 then [q.1] else []) := by
          rw [take_succ' hj]
          unfold liarsM
          rw [List.filter_append, List.map_append]
          congr 1
          by_cases z : peval F q.1 % p = q.2 <;> simp [z]
        have ml : (liarsM p (pts.take j) F).length ≤ 100 := by
          unfold liarsM
          rw [List.length_map]
          exact Nat.le_trans (List.length_filter_le _ _) (by rw [List.length_take]; omega)
        by_cases hm : (q.1, q.2) ∈ base
        · have z := mod_of_thr th hm rq.2
          rw [if_neg (fun w => w z), List.append_nil] at tk
          simp (disch := first | rfl | assumption | omega | simp [*]) [hn, hm]
          exact (hI _ _).mpr ⟨.va (.f (.d (.int q.1))), .va (.f (.d (.int q.2))), ⟨rfl, rfl⟩, by rw [tk]⟩
        · by_cases z : peval F q.1 % p = q.2
          · rw [if_neg (fun w => w z), List.append_nil] at tk
            simp (disch := first | rfl | assumption | omega | simp [*]) [hn, hm, ha, z]
            exact (hI _ _).mpr ⟨.va (.f (.d (.int q.1))), .va (.f (.d (.int q.2))), ⟨rfl, rfl⟩, by rw [tk]⟩
          · rw [if_pos z] at tk
            have ml2 : ((liarsM p (pts.take j) F).map PyData.int).length < 16777216 := by rw [List.length_map]; omega
            simp (disch := first | rfl | assumption | omega | simp [*]) [hn, hm, ha, z, -List.length_map]
            refine (hI _ _).mpr ⟨.va (.f (.d (.int q.1))), .va (.f (.d (.int q.2))), ⟨rfl, rfl⟩, ?_⟩
            rw [tk, List.map_append]; rfl
    · intro e h1
      obtain ⟨s4, s5, ⟨h4, h5⟩, rfl⟩ := (hI _ _).mp h1
      rw [ptsP_length, List.take_length, vRetV_va (s := SV.dl ((liarsM p pts F).map .int)) 3 _ rfl]
      rfl
  exact run_ofO key (frF_dl _)
end VL

set_option Elab.async false
set_option linter.all false
set_option maxRecDepth 100000
set_option maxHeartbeats 4000000
namespace VL
open PySem PySem.Spec PyProof.Rows L2

theorem run_lchoices (n k : Int) (hn : 0 ≤ n) (hn2 : n ≤ 20) (hk : 0 ≤ k) (hk2 : k ≤ 4) :
    run S__law_choices [.d (.int n), .d (.int k)] = .ok (.d (rowsP (chM n k.toNat))) := by
  unfold S__law_choices B__law_choices
  rw [run_mk]
  obtain ⟨I, hI⟩ : ∃ I : Nat → Env → Prop, ∀ j e, I j e ↔ ∃ s3 s4 s5 s6 s7, (free s3 = true ∧ free s4 = true ∧ free s5 = true ∧ free s6 = true ∧ free s7 = true) ∧ e = [.va (.f (.d (.int n))), .va (.f (.d (.int k))), .va (.f (.d (rowsP (chM n j)))), s3, s4, s5, s6, s7] := ⟨_, fun _ _ => Iff.rfl⟩
  have h0 : -4611686018427387904 ≤ k ∧ k < 4611686018427387904 := by omega
  simp (disch := first | rfl | assumption | omega | simp [*])
  refine fin_wp (wp_for I ?_ ?_ ?_)
  · exact (hI _ _).mpr ⟨.no, .no, .no, .no, .no, ⟨rfl, rfl, rfl, rfl, rfl⟩, rfl⟩
  · intro j x e hx h1
    obtain ⟨s3, s4, s5, s6, s7, ⟨h3, h4, h5, h6, h7⟩, rfl⟩ := (hI _ _).mp h1
    obtain ⟨hj, rfl⟩ := rng_get hx
    have jl : j < 4 := by omega
    have bl : (chM n j).length ≤ 20 ^ 3 := Nat.le_trans (chM_length n j) (Nat.le_trans (Nat.pow_le_pow_left (show n.toNat ≤ 20 by omega) j) (Nat.pow_le_pow_right (by omega) (by omega)))
    have hit : asL (rowsP (chM n j)) = .ok ((chM n j).map fun r => .list (r.map .int)) := rfl
    obtain ⟨J, hJ⟩ : ∃ J : Nat → Env → Prop, ∀ i e, J i e ↔ ∃ s5 s6 s7, (free s5 = true ∧ free s6 = true ∧ free s7 = true) ∧ e = [.va (.f (.d (.int n))), .va (.f (.d (.int k))), .va (.f (.d (rowsP (chM n j)))), .va (.f (.d (.int j))), .va (SV.dll (rowsD (((chM n j).take i).flatMap (longC n)))), s5, s6, s7] := ⟨_, fun _ _ => Iff.rfl⟩
    simp (disch := first | rfl | assumption | omega | simp [*]) [hit]
    refine wp_imp (wp_for (P := J (chM n j).length) J ?_ ?_ ?_) ?_
    · exact (hJ _ _).mpr ⟨s5, s6, s7, ⟨h5, h6, h7⟩, rfl⟩
    · intro i y e hy h2
      obtain ⟨s5, s6, s7, ⟨h5, h6, h7⟩, rfl⟩ := (hJ _ _).mp h2
      rw [List.getElem?_map] at hy
      cases hi : (chM n j)[i]? with
      | none => rw [hi] at hy; cases hy
      | some r =>
        rw [hi] at hy
        cases hy
        have il : i < (chM n j).length := (List.getElem?_eq_some_iff.mp hi).1
        have ris := chM_ris n j r (List.mem_of_getElem? hi)
        have st := stC_le ris
        have stn : stC r ≤ 20 := by
          rcases List.eq_nil_or_concat r with e | ⟨r0, b, e⟩
          · subst e; show (0 : Int) ≤ 20; omega
          · rw [List.concat_eq_append] at e
            subst e
            have s : stC (r0 ++ [b]) = b + 1 := by unfold stC; rw [List.getLast?_append]; rfl
            have hb := ris.rng b (by simp)
            omega
        have tl : (((chM n j).take i).flatMap (longC n)).length ≤ 20 ^ 3 * 20 := by
          refine Nat.le_trans (flatMap_le (longC n) 20 _ fun r m => Nat.le_trans (longC_length n r (chM_ris n j r (List.mem_of_mem_take m))) (by omega)) (Nat.mul_le_mul_right _ ?_)
          rw [List.length_take]; omega
        obtain ⟨L, hL⟩ : ∃ L : Nat → Env → Prop, ∀ m e, L m e ↔ ∃ s7, free s7 = true ∧ e = [.va (.f (.d (.int n))), .va (.f (.d (.int k))), .va (.f (.d (rowsP (chM n j)))), .va (.f (.d (.int j))), .va (SV.dll (rowsD (((chM n j).take i).flatMap (longC n) ++ (List.range m).map fun (i : Nat) => r ++ [stC r + (i : Int)]))), .va (.f (.d (.list (r.map .int)))), .va (.f (.d (.int (stC r)))), s7] := ⟨_, fun _ _ => Iff.rfl⟩
        have hst : (vSeq (vSet 6 (vC (.int 0))) (vIfS (toT (vCmp .gt (toD (v1 lenP (vVarD 5))) (toD (vC (.int 0))))) (vSet 6 (frO (v2 addV (toD (v2 ixP (vVarD 5) (toD (v1 negI (toD (vC (.int 1))))))) (toD (vC (.int 1)))))) vSkip))
            [.va (.f (.d (.int n))), .va (.f (.d (.int k))), .va (.f (.d (rowsP (chM n j)))), .va (.f (.d (.int j))), .va (SV.dll (rowsD (((chM n j).take i).flatMap (longC n)))), .va (.f (.d (.list (r.map .int)))), s6, s7]
            = .nx [.va (.f (.d (.int n))), .va (.f (.d (.int k))), .va (.f (.d (rowsP (chM n j)))), .va (.f (.d (.int j))), .va (SV.dll (rowsD (((chM n j).take i).flatMap (longC n)))), .va (.f (.d (.list (r.map .int)))), .va (.f (.d (.int (stC r)))), s7] := by
          rcases List.eq_nil_or_concat r with e | ⟨r0, b, e⟩
          · subst e
            simp (disch := first | rfl | assumption | omega | simp [*])
            rfl
          · rw [List.concat_eq_append] at e
            subst e
            have s : stC (r0 ++ [b]) = b + 1 := by unfold stC; rw [List.getLast?_append]; rfl
            have ha := atI_last (r0.map PyData.int) (.int b)
            simp (disch := first | rfl | assumption | omega | simp [*]) [ha, s]
        rw [gN_ap (t := s5) rfl h5, oW_some]
        rw [vSeq_ap]
        rw [show (List.set [.va (.f (.d (.int n))), .va (.f (.d (.int k))), .va (.f (.d (rowsP (chM n j)))), .va (.f (.d (.int j))), .va (SV.dll (rowsD (((chM n j).take i).flatMap (longC n)))), s5, s6, s7] 5 (.va (.f (.d (.list (r.map PyData.int)))))) = [.va (.f (.d (.int n))), .va (.f (.d (.int k))), .va (.f (.d (rowsP (chM n j)))), .va (.f (.d (.int j))), .va (SV.dll (rowsD (((chM n j).take i).flatMap (longC n)))), .va (.f (.d (.list (r.map .int)))), s6, s7] from rfl]
        rw [show ∀ (b c : ST) (e : Env), (vSet 6 (vC (.int 0)) e).andThen (vSeq b c) = (vSeq (vSet 6 (vC (.int 0))) b e).andThen c from fun b c e => by rw [vSeq_ap]; cases vSet 6 (vC (.int 0)) e <;> simp]
        rw [hst, andThen_nx]
        have hb1 : -4611686018427387904 ≤ stC r ∧ stC r < 4611686018427387904 ∧ -4611686018427387904 ≤ n ∧ n < 4611686018427387904 := by omega
        simp (disch := first | rfl | assumption | omega | simp [*])
        refine wp_for L ?_ ?_ ?_
        · exact (hL _ _).mpr ⟨s7, h7, by rw [List.range_zero, List.map_nil, List.append_nil]⟩
        · intro m y e hy h3
          obtain ⟨s7, h7, rfl⟩ := (hL _ _).mp h3
          obtain ⟨hm, rfl⟩ := rng_get hy
          have ll : (rowsD (((chM n j).take i).flatMap (longC n) ++ (List.range m).map fun (i : Nat) => r ++ [stC r + (i : Int)])).length < 16777216 := by
            rw [rowsD_length, List.length_append, List.length_map, List.length_range]
            omega
          have r2 : (r.map PyData.int).length + ([PyData.int (stC r + (m : Int))] : List PyData).length ≤ 16777216 := by simp; have := ris.len; omega
          have r3 : r.length ≤ 16777215 := by have := ris.len; omega
          rw [gN_ap (t := s7) rfl h7, oW_some]
          rw [vEx_ap, vApp_ap]
          have e1 : (plN 4 (List.set [.va (.f (.d (.int n))), .va (.f (.d (.int k))), .va (.f (.d (rowsP (chM n j)))), .va (.f (.d (.int j))), .va (SV.dll (rowsD (((chM n j).take i).flatMap (longC n) ++ (List.range m).map fun (i : Nat) => r ++ [stC r + (i : Int)]))), .va (.f (.d (.list (r.map .int)))), .va (.f (.d (.int (stC r)))), s7] 7 (.va (.f (.d (.int (stC r + (m : Int)))))))).bind lstP = .ok (4, [], SV.dll (rowsD (((chM n j).take i).flatMap (longC n) ++ (List.range m).map fun (i : Nat) => r ++ [stC r + (i : Int)]))) := by simp
          rw [e1, oR_ok]
          simp (disch := first | rfl | assumption | omega | simp [*])
          refine (hL _ _).mpr ⟨.va (.f (.d (.int (stC r + (m : Int))))), rfl, ?_⟩
          rw [List.range_succ, List.map_append, ← List.append_assoc, rowsD_append (_ ++ _)]
          simp [rowsD]
        · intro e h3
          obtain ⟨s7, h7, rfl⟩ := (hL _ _).mp h3
          rw [rngP_length]
          refine (hJ _ _).mpr ⟨.va (.f (.d (.list (r.map .int)))), .va (.f (.d (.int (stC r)))), s7, ⟨rfl, rfl, h7⟩, ?_⟩
          rw [take_succ' hi, List.flatMap_append]
          rw [show [r].flatMap (longC n) = longC n r by simp]
          rfl
    · intro e h2
      rwa [List.length_map] at h2
    · intro e h2
      obtain ⟨s5, s6, s7, ⟨h5, h6, h7⟩, rfl⟩ := (hJ _ _).mp h2
      rw [List.take_length]
      have e2 : frF (SV.dll (rowsD ((chM n j).flatMap (longC n)))) = .ok (.d (rowsP (chM n (j + 1)))) := by rw [frF_dll, rowsD_list]; rfl
      simp (disch := first | rfl | assumption | omega | simp [*]) [e2]
      exact (hI _ _).mpr ⟨.va (.f (.d (.int j))), .va (.f (.d (rowsP (chM n (j + 1))))), s5, s6, s7, ⟨rfl, rfl, h5, h6, h7⟩, rfl⟩
  · intro e h1
    obtain ⟨s3, s4, s5, s6, s7, ⟨h3, h4, h5, h6, h7⟩, rfl⟩ := (hI _ _).mp h1
    rw [rngP_length]
    simp

theorem pick_ok {p : Int} {pts : List (Int × Int)} (ok : PtOk p pts) {ch : List Int} {k : Nat} (h : Ris pts.length k ch) : PtOk p (pick pts ch) :=
  ⟨fun q m => ok.rng q (pick_mem h q m), pick_up ok.up h⟩
/-- no row has so few others -/
theorem run_none (p h f wrong : Int) (t : Tb p h f) (pts : List (Int × Int)) (ok : PtOk p pts) (hl : pts.length ≤ 20) (hw : 0 ≤ wrong ∧ wrong < 100) (hall : ∀ ch ∈ chM pts.length (f + 1).toNat, ∃ F, Thr p (pick pts ch) F ∧ wrong < ((liarsM p pts F).length : Int)) :
    run S__law_none [tbl p h f, .d (.list (ptsP pts)), .d (.int wrong)] = .ok (.d (.bool true)) := by
  have tp := t.pos
  have f1 := t.f1
  have f2 := t.f2
  unfold S__law_none B__law_none
  rw [run_mk]
  have hpl := ptsP_length pts
  have hch := run_lchoices pts.length (f + 1) (by omega) (by omega) (by omega) (by omega)
  have hit : asL (rowsP (chM (pts.length : Int) (f + 1).toNat)) = .ok ((chM (pts.length : Int) (f + 1).toNat).map fun r => .list (r.map .int)) := rfl
  simp (disch := first | rfl | assumption | omega | simp [*]) [hpl, hch, hit]
  obtain ⟨I, hI⟩ : ∃ I : Nat → Env → Prop, ∀ j e, I j e ↔ ∃ s3, free s3 = true ∧ e = [.va (.f (tbl p h f)), .va (.f (.d (.list (ptsP pts)))), .va (.f (.d (.int wrong))), s3, .no] := ⟨_, fun _ _ => Iff.rfl⟩
  refine fin_wp (wp_for I ?_ ?_ ?_)
  · exact (hI _ _).mpr ⟨.no, rfl, rfl⟩
  · intro j x e hx h1
    obtain ⟨s3, h3, rfl⟩ := (hI _ _).mp h1
    rw [List.getElem?_map] at hx
    cases hj : (chM pts.length (f + 1).toNat)[j]? with
    | none => rw [hj] at hx; cases hx
    | some ch =>
      rw [hj] at hx
      cases hx
      have cm := List.mem_of_getElem? hj
      have ris := chM_ris _ _ ch cm
      obtain ⟨F, th, hF⟩ := hall ch cm
      have pl : (pick pts ch).length = (f + 1).toNat := by unfold pick; rw [List.length_map, ris.len]
      have hbad := run_bad p h f t pts (pick pts ch) ok (pick_ok ok ris) (by omega) (by omega) th
      have hq : ¬ ((liarsM p pts F).length : Int) ≤ wrong := by omega
      rw [gN_ap (t := s3) rfl h3, oW_some]
      rw [show (List.set [.va (.f (tbl p h f)), .va (.f (.d (.list (ptsP pts)))), .va (.f (.d (.int wrong))), s3, .no] 3 (.va (.f (.d (.list (ch.map PyData.int)))))) = [.va (.f (tbl p h f)), .va (.f (.d (.list (ptsP pts)))), .va (.f (.d (.int wrong))), .va (.f (.d (.list (ch.map .int)))), .no] from rfl]
      have hc : ((vComp (vItL (vVarD 3)) (gN 4) vYes (unO (v2 ixP (vVarD 1) (vVarD 4))) [4]) [.va (.f (tbl p h f)), .va (.f (.d (.list (ptsP pts)))), .va (.f (.d (.int wrong))), .va (.f (.d (.list (ch.map .int)))), .no]).bind frF = .ok (.d (.list (ptsP (pick pts ch)))) := by
        rw [comp_map (items := ch.map .int) (pkD pts)]
        · rw [show ((ch.map PyData.int).map (pkD pts)) = ptsP (pick pts ch) by unfold ptsP pick; rw [List.map_map, List.map_map]; rfl]
        · simp
        · rw [List.length_map]; have := ris.len; omega
        · intro x hx
          obtain ⟨c, mc, rfl⟩ := List.mem_map.mp hx
          have rc := ris.rng c mc
          have il : c.toNat < pts.length := by omega
          have ha : atI (ptsP pts) c = some (.tuple [.int (pts.getD c.toNat (0, 0)).1, .int (pts.getD c.toNat (0, 0)).2]) := by
            rw [atI_pos rc.1]
            unfold ptsP
            rw [List.getElem?_map]
            simp only [List.getD, List.getElem?_eq_getElem il, Option.getD_some]
            rfl
          refine ⟨_, gN_ap (t := .no) rfl rfl, ?_⟩
          simp (disch := first | rfl | assumption | omega | simp [*]) [ha, pkD]
      simp (disch := first | rfl | assumption | omega | simp [*]) [hc, hbad, hq]
      exact (hI _ _).mpr ⟨_, rfl, rfl⟩
  · intro e h1
    obtain ⟨s3, h3, rfl⟩ := (hI _ _).mp h1
    simp
theorem allP_len {it : IT} {g : Tgt} {elt : FO} {vs : List Nat} {e : Env} {items : List PyData} (hi : it e = .ok items) (hl : items.length ≤ 16777216)
    (h : ∀ x ∈ items, ∃ e1, g x (wipeE e vs) = some e1 ∧ (elt e1).bind frF = .ok (.d (.bool true))) : ((vComp it g vYes elt vs e).bind frF).bind (fun x => (dOf x).bind allP) = .ok (.d (.bool true)) := by
  rw [comp_true hi hl h]
  simp
/-- what was told is well told -/
theorem run_told_well (p h f wrong : Int) (t : Tb p h f) (pts : List (Int × Int)) (ok : PtOk p pts) (hl : pts.length ≤ 20) (hw : 0 ≤ wrong ∧ wrong < 100) (hs : f + 1 + 2 * wrong ≤ pts.length) {F : List Int} (lF : F.length = (f + 1).toNat) (rF : Rng p F) (hc : ((liarsM p pts F).length : Int) ≤ wrong) :
    run S__law_told_well [tbl p h f, .d (.list (ptsP pts)), .d (.tuple [.int (F.getD 0 0), .list ((liarsM p pts F).map .int)]), .d (.int wrong)] = .ok (.d (.bool true)) := by
  have tp := t.pos
  have f1 := t.f1
  have f2 := t.f2
  unfold S__law_told_well B__law_told_well
  rw [run_mk]
  have a0 : ∀ a b : PyData, atI ([a, b] : List PyData) 0 = some a := fun a b => rfl
  have a1 : ∀ a b : PyData, atI ([a, b] : List PyData) 1 = some b := fun a b => rfl
  have i0 : ∀ a b : Int, atI ([.int a, .int b] : List PyData) 0 = some (.int a) := fun a b => rfl
  generalize hL : liarsM p pts F = L at *
  have memL : ∀ q ∈ pts, (q.1 ∈ L ↔ peval F q.1 % p ≠ q.2) := fun q m => by
    rw [← hL]
    unfold liarsM
    rw [List.mem_map]
    constructor
    · rintro ⟨r, hr, e⟩
      obtain ⟨m1, m2⟩ := List.mem_filter.mp hr
      have : r = q := by
        obtain ⟨i, hi, ei⟩ := List.getElem_of_mem m1
        obtain ⟨j, hj, ej⟩ := List.getElem_of_mem m
        by_cases hij : i = j
        · subst hij; rw [← ei, ← ej]
        · exact absurd e (up_dist ok.up i j r q (by rw [List.getElem?_eq_getElem hi, ei]) (by rw [List.getElem?_eq_getElem hj, ej]) hij)
      subst this
      simpa using m2
    · intro hne
      exact ⟨q, List.mem_filter.mpr ⟨m, by simpa using hne⟩, rfl⟩
  have e1 : vIfS (vOrT (vNotT (toT (v1 (fun y => iB (isI .tuple y)) (vVarD 2)))) (vOrT (toT (vCmp .ne (toD (v1 lenP (vVarD 2))) (toD (vC (.int 2))))) (vOrT (vNotT (toT (frO (vCall S__law_whole (aC (v2 ixP (vVarD 2) (toD (vC (.int 0)))) aN))))) (vNotT (toT (v1 (fun y => iB (isI .list y)) (toD (v2 ixP (vVarD 2) (toD (vC (.int 1))))))))))) (vRetP (vC (.bool false))) vSkip
      ([tbl p h f, FV.d (.list (ptsP pts)), .d (.tuple [.int (F.getD 0 0), .list (L.map .int)]), .d (.int wrong)].map vaF ++ List.replicate 3 .no)
      = .nx [.va (.f (tbl p h f)), .va (.f (.d (.list (ptsP pts)))), .va (.f (.d (.tuple [.int (F.getD 0 0), .list (L.map .int)]))), .va (.f (.d (.int wrong))), .no, .no, .no] := by
    generalize F.getD 0 0 = r0
    simp (disch := first | rfl | assumption | omega | simp [*]) [a0, a1]
  rw [vSeq_ap, e1, andThen_nx]
  generalize hr0 : F.getD 0 0 = r0
  have e2 : vIfS (vOrT (vNotT (toT (v1 allP (frD (vComp (vItL (toD (v2 ixP (vVarD 2) (toD (vC (.int 1)))))) (gN 5) vYes (vCall S__law_whole (aC (vVar 5) aN)) [5]))))) (toT (vCmp .gt (toD (v1 lenP (toD (v2 ixP (vVarD 2) (toD (vC (.int 1))))))) (vVarD 3)))) (vRetP (vC (.bool false))) vSkip
      [.va (.f (tbl p h f)), .va (.f (.d (.list (ptsP pts)))), .va (.f (.d (.tuple [.int r0, .list (L.map .int)]))), .va (.f (.d (.int wrong))), .no, .no, .no]
      = .nx [.va (.f (tbl p h f)), .va (.f (.d (.list (ptsP pts)))), .va (.f (.d (.tuple [.int r0, .list (L.map .int)]))), .va (.f (.d (.int wrong))), .no, .no, .no] := by
    have hq : ¬ wrong < (L.length : Int) := by omega
    simp (disch := first | rfl | assumption | omega | simp [*]) [a0, a1]
    rw [comp_true (items := L.map .int)]
    · simp [hq]
    · simp [a1]
    · rw [List.length_map]; omega
    · intro x hx
      obtain ⟨c, mc, rfl⟩ := List.mem_map.mp hx
      refine ⟨_, gN_ap (t := .no) rfl rfl, ?_⟩
      simp (disch := first | rfl | assumption | omega | simp [*])
  rw [vSeq_ap, e2, andThen_nx]
  obtain ⟨base, hbase⟩ : ∃ base, base = (pts.filter fun q => !decide (q.1 ∈ L)).take (f + 1).toNat := ⟨_, rfl⟩
  have e3 : vSet 4 (frO (vSl (frD (vComp (vItL (vVarD 1)) (gN 6) (toT (vCmp .notin (toD (v2 ixP (vVarD 6) (toD (vC (.int 0))))) (toD (v2 ixP (vVarD 2) (toD (vC (.int 1))))))) (unO (vVar 6)) [6])) vNoPart (vPart (frD (v2 addV (toD (vFld "Table" "few" (vVar 0))) (toD (vC (.int 1))))))))
      [.va (.f (tbl p h f)), .va (.f (.d (.list (ptsP pts)))), .va (.f (.d (.tuple [.int r0, .list (L.map .int)]))), .va (.f (.d (.int wrong))), .no, .no, .no]
      = .nx [.va (.f (tbl p h f)), .va (.f (.d (.list (ptsP pts)))), .va (.f (.d (.tuple [.int r0, .list (L.map .int)]))), .va (.f (.d (.int wrong))), .va (.f (.d (.list (ptsP base)))), .no, .no] := by
    rw [vSet_ap, frO_ap, vSl_ap, frD_ap, comp_fr (items := ptsP pts) (fun d => match d with | .tuple [.int a, .int b] => if a ∈ L then none else some (.tuple [.int a, .int b]) | _ => none)]
    · have hf : ∀ ps : List (Int × Int), (ptsP ps).filterMap (fun d => match d with | .tuple [.int a, .int b] => if a ∈ L then none else some (.tuple [.int a, .int b]) | _ => none) = ptsP (ps.filter fun q => !decide (q.1 ∈ L)) := by
        intro ps
        induction ps with
        | nil => rfl
        | cons q ps ih =>
          show ((PyData.tuple [.int q.1, .int q.2]) :: ptsP ps).filterMap _ = _
          by_cases z : q.1 ∈ L
          · rw [List.filterMap_cons_none (by simp [z]), ih, List.filter_cons_of_neg (by simp [z])]
          · rw [List.filterMap_cons_some (b := .tuple [.int q.1, .int q.2]) (by simp [z]), ih, List.filter_cons_of_pos (by simp [z])]
            rfl
      rw [hf]
      have ct := cut_to (ptsP (pts.filter fun q => !decide (q.1 ∈ L))) (b := f + 1) (by omega)
      have tk : (ptsP (pts.filter fun q => !decide (q.1 ∈ L))).take (f + 1).toNat = ptsP base := by rw [hbase]; unfold ptsP; rw [List.map_take]
      rw [tk] at ct
      simp (disch := first | rfl | assumption | omega | simp [*]) [ct]
    · simp
    · rw [ptsP_length]; omega
    · intro x hx
      obtain ⟨q, mq, rfl⟩ := List.mem_map.mp hx
      by_cases z : q.1 ∈ L
      · refine ⟨none, ?_, by simp [z]⟩
        simp (disch := first | rfl | assumption | omega | simp [*]) [turnC, a0, a1, i0, z]
      · refine ⟨some (.f (.d (.tuple [.int q.1, .int q.2]))), ?_, ?_⟩
        · simp (disch := first | rfl | assumption | omega | simp [*]) [turnC, a0, a1, i0, z]
        · simp [z]; rfl
  rw [vSeq_ap, e3, andThen_nx]
  have bm : ∀ q ∈ base, q ∈ pts ∧ peval F q.1 % p = q.2 := fun q m => by
    rw [hbase] at m
    obtain ⟨m1, m2⟩ := List.mem_filter.mp (List.mem_of_mem_take m)
    refine ⟨m1, ?_⟩
    have := (not_congr (memL q m1)).mp (by simpa using m2)
    exact Classical.byContradiction fun z => this z
  have bl : base.length = (f + 1).toNat := by
    rw [hbase, List.length_take]
    have h1 : (pts.filter fun q => !decide (q.1 ∈ L)).length + L.length = pts.length := by
      rw [← hL, liarsM_count, ← List.countP_eq_length_filter, List.length_eq_countP_add_countP (fun q : Int × Int => !decide (q.1 ∈ liarsM p pts F)) (l := pts)]
      congr 1
      refine List.countP_congr fun q m => ?_
      have := memL q m
      rw [← hL] at this
      simp [this]
    omega
  have ob : PtOk p base := ⟨fun q m => ok.rng q (bm q m).1, by rw [hbase]; exact ((ok.up.filter _).sublist (List.take_sublist _ _))⟩
  have th : Thr p base F := ⟨by rw [lF, bl], rF, fun q m => Cg.of_mod (by rw [(bm q m).2, Int.emod_eq_of_lt (ok.rng q (bm q m).1).2.1 (ok.rng q (bm q m).1).2.2])⟩
  have hbad := run_bad p h f t pts base ok ob (by omega) (by omega) th
  rw [hL] at hbad
  have hla := run_lawat p h f 0 t base ob (by omega) (by omega)
  have h0 : peval (lagI p base base.length) 0 % p = r0 := by
    rw [(lag_thr t ob th 0).mod_eq, ← hr0]
    match F, lF, rF with
    | [], lF, _ => exact absurd lF (by simp; omega)
    | a :: F', _, rF =>
      have := rF a List.mem_cons_self
      show (a + 0 * _) % p = a
      rw [Int.zero_mul, Int.add_zero, Int.emod_eq_of_lt this.1 this.2]
  rw [h0] at hla
  simp (disch := first | rfl | assumption | omega | simp [*]) [a0, a1, hbad, hla]
end VL

set_option Elab.async false
set_option linter.all false
set_option maxRecDepth 100000
set_option maxHeartbeats 4000000
namespace VL
open PySem PySem.Spec PyProof.Rows L2

structure Sok (p h : Int) (S : List (Option Int)) : Prop where
  len : S.length = h.toNat
  rng : ∀ v, some v ∈ S → 0 ≤ v ∧ v < p
theorem Sok.set {p h : Int} {S : List (Option Int)} (s : Sok p h S) (i : Nat) {o : Option Int} (ho : ∀ v, o = some v → 0 ≤ v ∧ v < p) : Sok p h (S.set i o) :=
  ⟨by rw [List.length_set, s.len], fun v m => by
    rcases List.mem_or_eq_of_mem_set m with z | z
    · exact s.rng v z
    · exact ho v z.symm⟩
theorem ints_shD (ns : List Int) : ns.map PyData.int = (ns.map some).map shD := by rw [List.map_map]; rfl
theorem run_law09 (ns : List Int) : run S_law_v8 [.sc ns] = .ok (.d (.bool true)) := by
  unfold S_law_v8 B_law_v8
  rw [run_mk]
  have t := tab_ok (cellAt ns 0)
  have tp := t.pos
  have t3 := t.h3
  have t7 := t.h7
  have thp := t.hp
  have f1 := t.f1
  have f2 := t.f2
  have fh := t.fh
  have hb := run_table_by (cellAt ns 0)
  generalize tabP (cellAt ns 0) = p at *
  generalize tabH (cellAt ns 0) = h at *
  generalize tabF (cellAt ns 0) = f at *
  have hno := runO_numbers (cellAt ns 1) h p (by omega) (by omega) (by omega)
  have nl := numbersM_length (cellAt ns 1) h.toNat p
  have nr : Rng p (numbersM (cellAt ns 1) h.toNat p) := fun c m => by
    obtain ⟨k, _, rfl⟩ := List.mem_map.mp m
    exact mixM_lt _ _ (by omega)
  generalize numbersM (cellAt ns 1) h.toNat p = N at *
  refine step_nx (e' := [.va (.f (.sc ns)), .va (.f (tbl p h f)), .no, .no, .no, .no, .no, .no, .no, .no, .no, .no, .no]) (by simp (disch := first | rfl | assumption | omega | simp [*]) [hb]) ?_
  refine step_nx (e' := [.va (.f (.sc ns)), .va (.f (tbl p h f)), .va (SV.dl (N.map .int)), .no, .no, .no, .no, .no, .no, .no, .no, .no, .no]) ?_ ?_
  · rw [vSetO_ap, vCall_raw]
    simp (disch := first | rfl | assumption | omega | simp [*]) [hno]
  obtain ⟨I, hI⟩ : ∃ I : Env → Prop, ∀ e, I e ↔ ∃ S s3 s4 s5, (free s3 = true ∧ free s4 = true ∧ free s5 = true) ∧ Sok p h S ∧ e = [.va (.f (.sc ns)), .va (.f (tbl p h f)), .va (SV.dl (S.map shD)), s3, s4, s5, .no, .no, .no, .no, .no, .no, .no] := ⟨_, fun _ => Iff.rfl⟩
  refine step_wp (P := I) ?_ fun e he => ?_
  · by_cases hc : cellAt ns 2 % 2 = 0
    · have ct := cut_to (N.map PyData.int) (b := f + 1) (by omega)
      rw [← List.map_take] at ct
      simp (disch := first | rfl | assumption | omega | simp [*]) [hc]
      try rw [ct]
      try simp only [← List.map_take]
      generalize N.take (f + 1).toNat = R at *
      have hsh : (rngP 1 h.toNat).map (fun x => PyData.int (peval R (unI x) % p)) = (((List.range h.toNat).map fun (k : Nat) => some (peval R (1 + (k : Int)) % p)).map shD) := by
        rw [map_rng fun x => peval R x % p, List.map_map, List.map_map]
        rfl
      rw [comp_dl (items := rngP 1 h.toNat) (fun x => .int (peval R (unI x) % p))]
      · rw [hsh]
        have q0 := Int.emod_nonneg (cellAt ns 2 / 2) (show (4 : Int) ≠ 0 by omega)
        have q1 := Int.emod_lt_of_pos (cellAt ns 2 / 2) (show (0 : Int) < 4 by omega)
        obtain ⟨J, hJ⟩ : ∃ J : Nat → Env → Prop, ∀ j e, J j e ↔ ∃ S s4 s5, (free s4 = true ∧ free s5 = true) ∧ Sok p h S ∧ e = [.va (.f (.sc ns)), .va (.f (tbl p h f)), .va (SV.dl (S.map shD)), .va (.f (.d (.list (R.map .int)))), s4, s5, .no, .no, .no, .no, .no, .no, .no] := ⟨_, fun _ _ => Iff.rfl⟩
        simp (disch := first | rfl | assumption | omega | simp [*]) [-List.map_map]
        refine wp_for J ?_ ?_ ?_
        · refine (hJ _ _).mpr ⟨_, .no, .no, ⟨rfl, rfl⟩, ⟨by simp, fun v m => ?_⟩, rfl⟩
          obtain ⟨k, _, e⟩ := List.mem_map.mp m
          have e2 := Option.some.inj e
          rw [← e2]
          exact ⟨Int.emod_nonneg _ (by omega), Int.emod_lt_of_pos _ (by omega)⟩
        · intro i x e hx h1
          obtain ⟨S, s4, s5, ⟨h4, h5⟩, ok, rfl⟩ := (hJ _ _).mp h1
          obtain ⟨hi, rfl⟩ := rng_get hx
          have m1 := run_mix (cellAt ns 3) (0 + (i : Int)) h (by omega)
          have m2 := run_mix (cellAt ns 4) (0 + (i : Int)) p (by omega)
          have r1 := mixM_lt (cellAt ns 3) (0 + (i : Int)) (show 0 < h by omega)
          have r2 := mixM_lt (cellAt ns 4) (0 + (i : Int)) (show 0 < p by omega)
          rw [gN_ap (t := s4) rfl h4, oW_some]
          generalize mixM (cellAt ns 3) (0 + (i : Int)) h = place at *
          generalize mixM (cellAt ns 4) (0 + (i : Int)) p = v at *
          generalize (0 + (i : Int)) = ii at *
          have sl : place < ((S.map shD).length : Int) := by rw [List.length_map, ok.len]; omega
          simp (disch := first | rfl | assumption | omega | simp [*]) [m1, m2]
          refine (hJ _ _).mpr ⟨S.set place.toNat (some v), .va (.f (.d (.int ii))), .va (.f (.d (.int place))), ⟨rfl, rfl⟩, ok.set _ (fun w e => by cases e; exact r2), by rw [← shD_set]; rfl⟩
        · intro e h1
          obtain ⟨S, s4, s5, ⟨h4, h5⟩, ok, rfl⟩ := (hJ _ _).mp h1
          exact (hI _).mpr ⟨S, _, s4, s5, ⟨rfl, h4, h5⟩, ok, rfl⟩
      · simp (disch := first | rfl | assumption | omega | simp [*])
      · rw [rngP_length]; omega
      · intro x hx
        obtain ⟨i, hi, rfl⟩ := rngP_mem hx
        refine ⟨_, gN_ap (t := .no) rfl rfl, ?_⟩
        have hw := run_lworth p (1 + (i : Int)) R (by omega) (by omega)
        rw [vCall_raw]
        simp (disch := first | rfl | assumption | omega | simp [*])
        exact runO_flat rfl hw
    · simp (disch := first | rfl | assumption | omega | simp [*]) [hc]
      exact (hI _).mpr ⟨N.map some, .no, .no, .no, ⟨rfl, rfl, rfl⟩, ⟨by rw [List.length_map, nl], fun v m => by
        obtain ⟨c, hc, e⟩ := List.mem_map.mp m
        cases e
        exact nr _ hc⟩, by rw [← ints_shD]⟩
  refine step_wp (P := I) ?_ fun e he => ?_
  · obtain ⟨S, s3, s4, s5, ⟨h3, h4, h5⟩, ok, rfl⟩ := (hI _).mp he
    have q0 := Int.emod_nonneg (cellAt ns 5 / 3) (show h ≠ 0 by omega)
    have q1 := Int.emod_lt_of_pos (cellAt ns 5 / 3) (show 0 < h by omega)
    by_cases hc : cellAt ns 5 % 3 = 1
    · have sl : cellAt ns 5 / 3 % h < ((S.map shD).length : Int) := by rw [List.length_map, ok.len]; omega
      simp (disch := first | rfl | assumption | omega | simp [*]) [hc]
      refine (hI _).mpr ⟨S.set (cellAt ns 5 / 3 % h).toNat none, dv s3, dv s4, dv s5, ⟨by simpa using h3, by simpa using h4, by simpa using h5⟩, ok.set _ (fun w e => by cases e), by rw [← shD_set]; rfl⟩
    · simp (disch := first | rfl | assumption | omega | simp [*]) [hc]
      exact he
  obtain ⟨S, s3, s4, s5, ⟨h3, h4, h5⟩, ok, rfl⟩ := (hI _).mp he
  have w0 := Int.emod_nonneg (cellAt ns 6) (show (4 : Int) ≠ 0 by omega)
  have w1 := Int.emod_lt_of_pos (cellAt ns 6) (show (0 : Int) < 4 by omega)
  refine step_nx (e' := [.va (.f (.sc ns)), .va (.f (tbl p h f)), .va (SV.dl (S.map shD)), s3, s4, s5, .va (.f (.d (.int (cellAt ns 6 % 4)))), .no, .no, .no, .no, .no, .no]) (by simp (disch := first | rfl | assumption | omega | simp [*])) ?_
  generalize cellAt ns 6 % 4 = wrong at *
  refine step_nx (e' := [.va (.f (.sc ns)), .va (.f (tbl p h f)), .va (.f (.d (.list (S.map shD)))), s3, s4, s5, .va (.f (.d (.int wrong))), .no, .no, .no, .no, .no, .no]) (by simp) ?_
  have hfm := ptsO_fm 0 S
  rw [show ((0 : Nat) : Int) + 1 = 1 from rfl] at hfm
  have okp : PtOk p (ptsO 1 S) := ⟨fun q m => by
    obtain ⟨i, h1, h2⟩ := (ptsO_mem S 1 q).mp m
    have il : i < S.length := (List.getElem?_eq_some_iff.mp h1).1
    rw [ok.len] at il
    exact ⟨⟨by omega, by omega⟩, ok.rng _ (List.mem_of_getElem? h1)⟩, ptsO_up S 1⟩
  have pl := ptsO_length S 1
  have hm := run_mended p h f wrong t S (by rw [ok.len]; omega) okp (by omega)
  have sl := ok.len
  generalize ptsO 1 S = pts at *
  refine step_nx (e' := [.va (.f (.sc ns)), .va (.f (tbl p h f)), .va (.f (.d (.list (S.map shD)))), s3, s4, s5, .va (.f (.d (.int wrong))), .va (.f (.d (.list (ptsP pts)))), .no, .no, .no, .no, .no]) ?_ ?_
  · rw [vSet_ap, frO_ap, comp_fr (items := enumP 0 (S.map shD)) ptF]
    · rw [hfm]
      simp
    · simp
    · rw [enumP_length]; simp; omega
    · intro x hx
      obtain ⟨k, o, rfl⟩ := pts_fr S x hx
      cases o with
      | none =>
        refine ⟨none, ?_, rfl⟩
        simp [turnC, shD]
      | some s =>
        refine ⟨some (.f (.d (.tuple [.int (k + 1), .int s]))), ?_, rfl⟩
        simp [turnC, shD]
  have hpl := ptsP_length pts
  refine step_nx (e' := [.va (.f (.sc ns)), .va (.f (tbl p h f)), .va (.f (.d (.list (S.map shD)))), s3, s4, s5, .va (.f (.d (.int wrong))), .va (.f (.d (.list (ptsP pts)))), .va (.f (.d (.bool (decide ((pts.length : Int) < f + 1 + 2 * wrong))))), .no, .no, .no, .no]) (by simp (disch := first | rfl | assumption | omega | simp [*]) [hpl]) ?_
  refine step_nx (e' := [.va (.f (.sc ns)), .va (.f (tbl p h f)), .va (.f (.d (.list (S.map shD)))), s3, s4, s5, .va (.f (.d (.int wrong))), .va (.f (.d (.list (ptsP pts)))), .va (.f (.d (.bool (decide ((pts.length : Int) < f + 1 + 2 * wrong))))), .va (.f (.d .none)), .no, .no, .no]) (by simp (disch := first | rfl | assumption | omega | simp [*])) ?_
  by_cases hs : (pts.length : Int) < f + 1 + 2 * wrong
  · have hr := hm.1 hs
    simp (disch := first | rfl | assumption | omega | simp [*]) [vTry_ap, hr, hs, offI, subE]
  · rcases hm.2 hs with ⟨ch, F, hch, th, hc, hr⟩ | ⟨hr, hall⟩
    · have pl : (pick pts ch).length = (f + 1).toNat := by unfold pick; rw [List.length_map, (chM_ris _ _ ch hch).len]
      have hw := run_told_well p h f wrong t pts okp (by omega) (by omega) (by omega) (by rw [th.len, pl]) th.rng hc
      generalize F.getD 0 0 = r0 at *
      simp (disch := first | rfl | assumption | omega | simp [*]) [vTry_ap, hr, hs, hw]
    · have hw := run_none p h f wrong t pts okp (by omega) (by omega) hall
      simp (disch := first | rfl | assumption | omega | simp [*]) [vTry_ap, hr, hs, hw]
theorem law09 : ∀ ns : List Int, ns.length ≤ 63 → ∃ a, S_law_v8 [.va (.f (.sc ns))] = .ret (.f (.d (.bool true))) a := fun ns _ => law_end (run_law09 ns)
end VL

set_option Elab.async false
set_option linter.all false
set_option maxRecDepth 100000
set_option maxHeartbeats 4000000
namespace VL
open PySem PySem.Spec PyProof.Rows L2

/-! ### comprehensions over rows of anything -/
theorem compL_lst {α : Type} {g : Tgt} {t : FT} {elt : FO} {e : Env} (D : α → PyData) (P : α → Bool) (G : α → SV) : ∀ {L : List α}, (∀ a ∈ L, ∃ e1, g (D a) e = some e1 ∧ t e1 = .ok (P a) ∧ (P a = true → elt e1 = .ok (G a))) → compL g t elt e (L.map D) = .ok ((L.filter P).map G)
  | [], _ => rfl
  | x :: L, h => by
    obtain ⟨e1, h1, h2, h3⟩ := h x List.mem_cons_self
    have ih := compL_lst D P G (L := L) fun y m => h y (List.mem_cons_of_mem _ m)
    show (match g (D x) e with | none => Res.bad | some e1 => (noE (t e1)).bind fun b => if b = true then (noE (elt e1)).bind fun y => (compL g t elt e (L.map D)).bind fun ys => .ok (y :: ys) else compL g t elt e (L.map D)) = _
    rw [h1]
    dsimp only
    rw [h2, noE_ok', bind_ok]
    by_cases hp : P x = true
    · rw [if_pos hp, h3 hp, noE_ok', bind_ok, ih, bind_ok, List.filter_cons_of_pos hp]
      rfl
    · rw [if_neg hp, ih, List.filter_cons_of_neg hp]
theorem compL_idx {α : Type} {g : Tgt} {elt : FO} {e : Env} (D : α → PyData) (G : Nat → α → SV) : ∀ (L : List α) (k : Nat), (∀ i a, L[i]? = some a → ∃ e1, g (.tuple [.int ((k + i : Nat) : Int), D a]) e = some e1 ∧ elt e1 = .ok (G (k + i) a)) → compL g vYes elt e (enumP k (L.map D)) = .ok (L.mapIdx fun i a => G (k + i) a)
  | [], _, _ => rfl
  | x :: L, k, h => by
    obtain ⟨e1, h1, h2⟩ := h 0 x rfl
    have ih := compL_idx D G L (k + 1) fun i a hi => by
      have := h (i + 1) a (by simpa using hi)
      rwa [show k + (i + 1) = k + 1 + i by omega] at this
    show (match g (.tuple [.int (k : Int), D x]) e with | none => Res.bad | some e1 => (noE (vYes e1)).bind fun b => if b = true then (noE (elt e1)).bind fun y => (compL g vYes elt e (enumP (k + 1) (L.map D))).bind fun ys => .ok (y :: ys) else compL g vYes elt e (enumP (k + 1) (L.map D))) = _
    have h1' : g (.tuple [.int (k : Int), D x]) e = some e1 := h1
    rw [h1']
    dsimp only
    rw [vYes_ap, noE_ok', bind_ok, if_pos rfl, h2, noE_ok', bind_ok, ih, bind_ok, List.mapIdx_cons]
    congr 3
    funext i a
    rw [show k + 1 + i = k + (i + 1) by omega]
/-- values kept -/
theorem comp_lstT {α : Type} {it : IT} {g : Tgt} {t : FT} {elt : FO} {vs : List Nat} {e : Env} (L : List α) (D : α → PyData) (P : α → Bool) (G : α → SV) (hi : it e = .ok (L.map D)) (hl : L.length ≤ 16777216)
    (h : ∀ a ∈ L, ∃ e1, g (D a) (wipeE e vs) = some e1 ∧ t e1 = .ok (P a) ∧ (P a = true → elt e1 = .ok (G a))) : vComp it g t elt vs e = .ok (.own ((L.filter P).map G)) := by
  rw [vComp_ap, hi, bind_ok, cIf_pos (by rw [List.length_map]; exact hl), compL_lst D P G h, bind_ok]
theorem comp_idxT {α : Type} {it : IT} {g : Tgt} {elt : FO} {vs : List Nat} {e : Env} (L : List α) (D : α → PyData) (G : Nat → α → SV) (hi : it e = .ok (enumP 0 (L.map D))) (hl : L.length ≤ 16777216)
    (h : ∀ (i : Nat) (a : α), L[i]? = some a → ∃ e1, g (.tuple [.int (i : Int), D a]) (wipeE e vs) = some e1 ∧ elt e1 = .ok (G i a)) : vComp it g vYes elt vs e = .ok (.own (L.mapIdx G)) := by
  rw [vComp_ap, hi, bind_ok, cIf_pos (by rw [enumP_length, List.length_map]; exact hl), compL_idx D G L 0 fun i a hi => by simpa using h i a hi, bind_ok]
  congr 2
  congr 1
  funext i a
  rw [Nat.zero_add]
theorem elt_leaf {elt : FO} {e : Env} {p : PyData} (hp : flatP p = true) (h : (elt e).bind frF = .ok (.d p)) : elt e = .ok (.f (.d p)) := by
  cases z : elt e with
  | ok s => rw [z] at h; rw [frF_flat hp h]
  | err c => rw [z] at h; cases h
  | bad => rw [z] at h; cases h
theorem mapIdx_dl {α : Type} (L : List α) (G : Nat → α → PyData) : SV.own (L.mapIdx fun i a => SV.f (.d (G i a))) = SV.dl (L.mapIdx G) := by
  unfold SV.dl
  congr 1
  refine List.ext_getElem (by simp) fun i h1 h2 => ?_
  simp
theorem map_dl {α : Type} (L : List α) (G : α → PyData) : SV.own (L.map fun a => SV.f (.d (G a))) = SV.dl (L.map G) := by
  unfold SV.dl
  rw [List.map_map]
  rfl
/-! words -/
@[simp] theorem sok_in : PyData.strOk (Str.ofString "in") = true := by decide +kernel
@[simp] theorem sok_fix : PyData.strOk (Str.ofString "fix") = true := by decide +kernel
@[simp] theorem sok_by : PyData.strOk (Str.ofString "by") = true := by decide +kernel
@[simp] theorem sok_sum : PyData.strOk (Str.ofString "sum") = true := by decide +kernel
@[simp] theorem sok_less : PyData.strOk (Str.ofString "less") = true := by decide +kernel
@[simp] theorem sok_mul : PyData.strOk (Str.ofString "mul") = true := by decide +kernel
@[simp] theorem sok_anew : PyData.strOk (Str.ofString "anew") = true := by decide +kernel
@[simp] theorem sok_open : PyData.strOk (Str.ofString "open") = true := by decide +kernel
@[simp] theorem w_in_fix : (Str.ofString "in" = Str.ofString "fix") = False := eq_false (by decide +kernel)
@[simp] theorem w_in_by : (Str.ofString "in" = Str.ofString "by") = False := eq_false (by decide +kernel)
@[simp] theorem w_in_sum : (Str.ofString "in" = Str.ofString "sum") = False := eq_false (by decide +kernel)
@[simp] theorem w_in_less : (Str.ofString "in" = Str.ofString "less") = False := eq_false (by decide +kernel)
@[simp] theorem w_in_mul : (Str.ofString "in" = Str.ofString "mul") = False := eq_false (by decide +kernel)
@[simp] theorem w_in_anew : (Str.ofString "in" = Str.ofString "anew") = False := eq_false (by decide +kernel)
@[simp] theorem w_in_open : (Str.ofString "in" = Str.ofString "open") = False := eq_false (by decide +kernel)
@[simp] theorem w_fix_in : (Str.ofString "fix" = Str.ofString "in") = False := eq_false (by decide +kernel)
@[simp] theorem w_fix_by : (Str.ofString "fix" = Str.ofString "by") = False := eq_false (by decide +kernel)
@[simp] theorem w_fix_sum : (Str.ofString "fix" = Str.ofString "sum") = False := eq_false (by decide +kernel)
@[simp] theorem w_fix_less : (Str.ofString "fix" = Str.ofString "less") = False := eq_false (by decide +kernel)
@[simp] theorem w_fix_mul : (Str.ofString "fix" = Str.ofString "mul") = False := eq_false (by decide +kernel)
@[simp] theorem w_fix_anew : (Str.ofString "fix" = Str.ofString "anew") = False := eq_false (by decide +kernel)
@[simp] theorem w_fix_open : (Str.ofString "fix" = Str.ofString "open") = False := eq_false (by decide +kernel)
@[simp] theorem w_by_in : (Str.ofString "by" = Str.ofString "in") = False := eq_false (by decide +kernel)
@[simp] theorem w_by_fix : (Str.ofString "by" = Str.ofString "fix") = False := eq_false (by decide +kernel)
@[simp] theorem w_by_sum : (Str.ofString "by" = Str.ofString "sum") = False := eq_false (by decide +kernel)
@[simp] theorem w_by_less : (Str.ofString "by" = Str.ofString "less") = False := eq_false (by decide +kernel)
@[simp] theorem w_by_mul : (Str.ofString "by" = Str.ofString "mul") = False := eq_false (by decide +kernel)
@[simp] theorem w_by_anew : (Str.ofString "by" = Str.ofString "anew") = False := eq_false (by decide +kernel)
@[simp] theorem w_by_open : (Str.ofString "by" = Str.ofString "open") = False := eq_false (by decide +kernel)
@[simp] theorem w_sum_in : (Str.ofString "sum" = Str.ofString "in") = False := eq_false (by decide +kernel)
@[simp] theorem w_sum_fix : (Str.ofString "sum" = Str.ofString "fix") = False := eq_false (by decide +kernel)
@[simp] theorem w_sum_by : (Str.ofString "sum" = Str.ofString "by") = False := eq_false (by decide +kernel)
@[simp] theorem w_sum_less : (Str.ofString "sum" = Str.ofString "less") = False := eq_false (by decide +kernel)
@[simp] theorem w_sum_mul : (Str.ofString "sum" = Str.ofString "mul") = False := eq_false (by decide +kernel)
@[simp] theorem w_sum_anew : (Str.ofString "sum" = Str.ofString "anew") = False := eq_false (by decide +kernel)
@[simp] theorem w_sum_open : (Str.ofString "sum" = Str.ofString "open") = False := eq_false (by decide +kernel)
@[simp] theorem w_less_in : (Str.ofString "less" = Str.ofString "in") = False := eq_false (by decide +kernel)
@[simp] theorem w_less_fix : (Str.ofString "less" = Str.ofString "fix") = False := eq_false (by decide +kernel)
@[simp] theorem w_less_by : (Str.ofString "less" = Str.ofString "by") = False := eq_false (by decide +kernel)
@[simp] theorem w_less_sum : (Str.ofString "less" = Str.ofString "sum") = False := eq_false (by decide +kernel)
@[simp] theorem w_less_mul : (Str.ofString "less" = Str.ofString "mul") = False := eq_false (by decide +kernel)
@[simp] theorem w_less_anew : (Str.ofString "less" = Str.ofString "anew") = False := eq_false (by decide +kernel)
@[simp] theorem w_less_open : (Str.ofString "less" = Str.ofString "open") = False := eq_false (by decide +kernel)
@[simp] theorem w_mul_in : (Str.ofString "mul" = Str.ofString "in") = False := eq_false (by decide +kernel)
@[simp] theorem w_mul_fix : (Str.ofString "mul" = Str.ofString "fix") = False := eq_false (by decide +kernel)
@[simp] theorem w_mul_by : (Str.ofString "mul" = Str.ofString "by") = False := eq_false (by decide +kernel)
@[simp] theorem w_mul_sum : (Str.ofString "mul" = Str.ofString "sum") = False := eq_false (by decide +kernel)
@[simp] theorem w_mul_less : (Str.ofString "mul" = Str.ofString "less") = False := eq_false (by decide +kernel)
@[simp] theorem w_mul_anew : (Str.ofString "mul" = Str.ofString "anew") = False := eq_false (by decide +kernel)
@[simp] theorem w_mul_open : (Str.ofString "mul" = Str.ofString "open") = False := eq_false (by decide +kernel)
@[simp] theorem w_anew_in : (Str.ofString "anew" = Str.ofString "in") = False := eq_false (by decide +kernel)
@[simp] theorem w_anew_fix : (Str.ofString "anew" = Str.ofString "fix") = False := eq_false (by decide +kernel)
@[simp] theorem w_anew_by : (Str.ofString "anew" = Str.ofString "by") = False := eq_false (by decide +kernel)
@[simp] theorem w_anew_sum : (Str.ofString "anew" = Str.ofString "sum") = False := eq_false (by decide +kernel)
@[simp] theorem w_anew_less : (Str.ofString "anew" = Str.ofString "less") = False := eq_false (by decide +kernel)
@[simp] theorem w_anew_mul : (Str.ofString "anew" = Str.ofString "mul") = False := eq_false (by decide +kernel)
@[simp] theorem w_anew_open : (Str.ofString "anew" = Str.ofString "open") = False := eq_false (by decide +kernel)
@[simp] theorem w_open_in : (Str.ofString "open" = Str.ofString "in") = False := eq_false (by decide +kernel)
@[simp] theorem w_open_fix : (Str.ofString "open" = Str.ofString "fix") = False := eq_false (by decide +kernel)
@[simp] theorem w_open_by : (Str.ofString "open" = Str.ofString "by") = False := eq_false (by decide +kernel)
@[simp] theorem w_open_sum : (Str.ofString "open" = Str.ofString "sum") = False := eq_false (by decide +kernel)
@[simp] theorem w_open_less : (Str.ofString "open" = Str.ofString "less") = False := eq_false (by decide +kernel)
@[simp] theorem w_open_mul : (Str.ofString "open" = Str.ofString "mul") = False := eq_false (by decide +kernel)
@[simp] theorem w_open_anew : (Str.ofString "open" = Str.ofString "anew") = False := eq_false (by decide +kernel)
/-! ### steps -/
inductive Op where
  | inn (hand : Int)
  | fix (n : Int)
  | byy (a n : Int)
  | sum (a b : Int)
  | less (a b : Int)
  | mul (a b : Int)
  | anew (a : Int)
  | opn (a : Int)
def Op.D : Op → PyData
  | .inn hd => .tuple [.str "in", .int hd]
  | .fix n => .tuple [.str "fix", .int n]
  | .byy a n => .tuple [.str "by", .int a, .int n]
  | .sum a b => .tuple [.str "sum", .int a, .int b]
  | .less a b => .tuple [.str "less", .int a, .int b]
  | .mul a b => .tuple [.str "mul", .int a, .int b]
  | .anew a => .tuple [.str "anew", .int a]
  | .opn a => .tuple [.str "open", .int a]
def Op.ok (p h at_ : Int) : Op → Bool
  | .inn hd => decide (1 ≤ hd) && decide (hd ≤ h)
  | .fix n => decide (0 ≤ n) && decide (n < p)
  | .byy a n => (decide (0 ≤ a) && decide (a < at_)) && (decide (0 ≤ n) && decide (n < p))
  | .sum a b => (decide (0 ≤ a) && decide (a < at_)) && (decide (0 ≤ b) && decide (b < at_))
  | .less a b => (decide (0 ≤ a) && decide (a < at_)) && (decide (0 ≤ b) && decide (b < at_))
  | .mul a b => (decide (0 ≤ a) && decide (a < at_)) && (decide (0 ≤ b) && decide (b < at_))
  | .anew a => decide (0 ≤ a) && decide (a < at_)
  | .opn a => decide (0 ≤ a) && decide (a < at_)
@[simp] theorem run_is_number (p h f n : Int) : run S_is_number [tbl p h f, .d (.int n)] = .ok (.d (.bool (decide (0 ≤ n) && decide (n < p)))) := by
  unfold S_is_number B_is_number
  rw [run_mk]
  by_cases a : 0 ≤ n <;> by_cases b : n < p <;> simp [a, b]
theorem ix2_0 (a b : PyData) : atI ([a, b] : List PyData) 0 = some a := rfl
theorem ix2_1 (a b : PyData) : atI ([a, b] : List PyData) 1 = some b := rfl
theorem ix3_0 (a b c : PyData) : atI ([a, b, c] : List PyData) 0 = some a := rfl
theorem ix3_1 (a b c : PyData) : atI ([a, b, c] : List PyData) 1 = some b := rfl
theorem ix3_2 (a b c : PyData) : atI ([a, b, c] : List PyData) 2 = some c := rfl
theorem inV_w (x : Str) (ws : List Str) : inV (.str x) (ws.map fun i => V.str i) = decide (x ∈ ws) := by
  induction ws with
  | nil => rfl
  | cons n ns ih =>
    have e : inV (.str x) ((n :: ns).map fun i => V.str i) = ((n == x) || inV (.str x) (ns.map fun i => V.str i)) := rfl
    rw [e, ih]
    by_cases q : n = x
    · subst q; simp
    · have q' : ¬ x = n := fun z => q z.symm
      simp [q, q']
theorem in_w (x : Str) (ws : List Str) : Cop.h .isin (.str x) (.tuple (ws.map .str)) = .ok (.d (.bool (decide (x ∈ ws)))) := by
  show inP false (.str x) (.tuple (ws.map .str)) = _
  unfold inP
  dsimp only
  rw [if_pos ⟨rfl, by
    rw [List.all_eq_true]
    intro y m
    obtain ⟨i, _, rfl⟩ := List.mem_map.mp m
    rfl⟩]
  rw [show (ws.map PyData.str).map toV = ws.map fun i => V.str i by rw [List.map_map]; rfl]
  show Res.ok (FV.d (.bool (inV (.str x) _))) = _
  rw [inV_w]
theorem in_w2 (x a b : Str) : Cop.h .isin (.str x) (.tuple [.str a, .str b]) = .ok (.d (.bool (decide (x = a) || decide (x = b)))) := by
  exact (in_w x [a, b]).trans (by simp)
theorem in_w3 (x a b c : Str) : Cop.h .isin (.str x) (.tuple [.str a, .str b, .str c]) = .ok (.d (.bool (decide (x = a) || (decide (x = b) || decide (x = c))))) := by
  exact (in_w x [a, b, c]).trans (by simp)
theorem run_step_right (p h f at_ : Int) (o : Op) : run S_step_right [tbl p h f, .d o.D, .d (.int at_)] = .ok (.d (.bool (o.ok p h at_))) := by
  unfold S_step_right B_step_right
  rw [run_mk]
  cases o with
  | inn hd =>
    unfold Op.D Op.ok
    by_cases a : 1 ≤ hd <;> by_cases b : hd ≤ h <;> simp (disch := first | rfl | assumption | omega | simp [*]) [ix2_0, ix2_1, ix3_0, ix3_1, ix3_2, a, b]
  | fix n =>
    unfold Op.D Op.ok
    simp (disch := first | rfl | assumption | omega | simp [*]) [ix2_0, ix2_1, ix3_0, ix3_1, ix3_2]
  | byy a n =>
    unfold Op.D Op.ok
    by_cases c : 0 ≤ a <;> by_cases d : a < at_ <;> simp (disch := first | rfl | assumption | omega | simp [*]) [ix2_0, ix2_1, ix3_0, ix3_1, ix3_2, c, d]
  | sum a b =>
    unfold Op.D Op.ok
    by_cases c : 0 ≤ a <;> by_cases d : a < at_ <;> by_cases c' : 0 ≤ b <;> by_cases d' : b < at_ <;> simp (disch := first | rfl | assumption | omega | simp [*]) [ix2_0, ix2_1, ix3_0, ix3_1, ix3_2, c, d, c', d', in_w2]
  | less a b =>
    unfold Op.D Op.ok
    by_cases c : 0 ≤ a <;> by_cases d : a < at_ <;> by_cases c' : 0 ≤ b <;> by_cases d' : b < at_ <;> simp (disch := first | rfl | assumption | omega | simp [*]) [ix2_0, ix2_1, ix3_0, ix3_1, ix3_2, c, d, c', d', in_w2]
  | mul a b =>
    unfold Op.D Op.ok
    by_cases c : 0 ≤ a <;> by_cases d : a < at_ <;> by_cases c' : 0 ≤ b <;> by_cases d' : b < at_ <;> simp (disch := first | rfl | assumption | omega | simp [*]) [ix2_0, ix2_1, ix3_0, ix3_1, ix3_2, c, d, c', d', in_w2]
  | anew a =>
    unfold Op.D Op.ok
    by_cases c : 0 ≤ a <;> by_cases d : a < at_ <;> simp (disch := first | rfl | assumption | omega | simp [*]) [ix2_0, ix2_1, ix3_0, ix3_1, ix3_2, c, d, in_w2]
  | opn a =>
    unfold Op.D Op.ok
    by_cases c : 0 ≤ a <;> by_cases d : a < at_ <;> simp (disch := first | rfl | assumption | omega | simp [*]) [ix2_0, ix2_1, ix3_0, ix3_1, ix3_2, c, d, in_w2]
/-- a row of steps -/
def opsD (os : List Op) : PyData := .list (os.map Op.D)
def okL (p h : Int) (os : List Op) : Bool := (os.mapIdx fun i o => o.ok p h i).all id
def rightM (p h : Int) (os : List Op) : Bool := (decide (1 ≤ os.length) && decide (os.length ≤ 24)) && okL p h os
theorem run_right (p h f : Int) (os : List Op) (hl : os.length < 1000) : run S_right [tbl p h f, .d (opsD os)] = .ok (.d (.bool (rightM p h os))) := by
  unfold S_right B_right rightM opsD okL
  rw [run_mk]
  by_cases a : 1 ≤ os.length
  · by_cases b : os.length ≤ 24
    · have a' : (1 : Int) ≤ os.length := by omega
      have b' : (os.length : Int) ≤ 24 := by omega
      simp (disch := first | rfl | assumption | omega | simp [*]) [a, b, a', b']
      rw [comp_idxT os Op.D (fun i o => .f (.d (.bool (o.ok p h i))))]
      · rw [mapIdx_dl os fun i o => .bool (o.ok p h i)]
        rw [show (os.mapIdx fun i o => PyData.bool (o.ok p h i)) = (os.mapIdx fun i o => o.ok p h i).map .bool from by
          refine List.ext_getElem (by simp) fun i h1 h2 => ?_
          simp]
        simp
      · simp [Function.comp_def]
      · omega
      · intro i o hi
        refine ⟨[.va (.f (tbl p h f)), .va (.f (.d (.list (os.map Op.D)))), .va (.f (.d (.int i))), .va (.f (.d o.D))], by simp, ?_⟩
        refine elt_leaf rfl ?_
        have := run_step_right p h f i o
        simp (disch := first | rfl | assumption | omega | simp [*]) [this]
    · have b' : ¬ (os.length : Int) ≤ 24 := by omega
      have a' : (1 : Int) ≤ os.length := by omega
      simp (disch := first | rfl | assumption | omega | simp [*]) [a, b, a', b']
  · have a' : ¬ (1 : Int) ≤ os.length := by omega
    simp (disch := first | rfl | assumption | omega | simp [*]) [a, a']
theorem run_check_steps (p h f : Int) (os : List Op) (hl : os.length < 1000) : run S_check_steps [tbl p h f, .d (opsD os)] = if rightM p h os = true then .ok (.d .none) else .err "BadSteps" := by
  unfold S_check_steps B_check_steps
  rw [run_mk]
  have := run_right p h f os hl
  cases z : rightM p h os <;> simp (disch := first | rfl | assumption | omega | simp [*]) [this, z]
def Op.needs (h f : Int) : Op → Int
  | .inn _ => f
  | .mul _ _ => f * h
  | .anew _ => f * h
  | _ => 0
theorem run_step_needs (p h f : Int) (o : Op) (hf : 0 ≤ f ∧ f ≤ 2) : run S_step_needs [tbl p h f, .d o.D] = .ok (.d (.int (o.needs h f))) := by
  unfold S_step_needs B_step_needs
  rw [run_mk]
  cases o <;> (unfold Op.D Op.needs; simp (disch := first | rfl | assumption | omega | simp [*]) [ix2_0, ix2_1, ix3_0, ix3_1, ix3_2, in_w2])
def needsM (h f : Int) (os : List Op) : Int := (os.map fun o => o.needs h f).sum
theorem run_needs (p h f : Int) (os : List Op) (hl : os.length < 1000) (hf : 0 ≤ f ∧ f ≤ 2) : run S_needs [tbl p h f, .d (opsD os)] = if rightM p h os = true then .ok (.d (.int (needsM h f os))) else .err "BadSteps" := by
  unfold S_needs B_needs
  rw [run_mk, vSeq_ap]
  have hc := run_check_steps p h f os hl
  by_cases hr : rightM p h os = true
  · rw [if_pos hr] at hc ⊢
    rw [drop_ok (xs := [tbl p h f, .d (opsD os)]) rfl hc, andThen_nx]
    simp (disch := first | rfl | assumption | omega | simp [*])
    rw [comp_lstT os Op.D (fun _ => true) (fun o => .f (.d (.int (o.needs h f))))]
    · rw [List.filter_eq_self.mpr (fun _ _ => rfl), map_dl os fun o => .int (o.needs h f)]
      rw [show (os.map fun o => PyData.int (o.needs h f)) = (os.map fun o => o.needs h f).map .int by rw [List.map_map]; rfl]
      simp [-List.map_map]
      rfl
    · simp [opsD]
    · omega
    · intro o _
      refine ⟨_, gN_ap (t := .no) rfl rfl, rfl, fun _ => elt_leaf rfl ?_⟩
      have := run_step_needs p h f o hf
      simp (disch := first | rfl | assumption | omega | simp [*]) [this]
  · rw [if_neg hr] at hc ⊢
    rw [drop_err (xs := [tbl p h f, .d (opsD os)]) rfl hc]
    rfl
end VL

set_option Elab.async false
set_option linter.all false
set_option maxRecDepth 100000
set_option maxHeartbeats 4000000
namespace VL
open PySem PySem.Spec PyProof.Rows L2

/-! ### drawn steps -/
def opBy (c at_ p h : Int) : Op :=
  let way := mixM c 1 9
  if at_ = 0 ∨ way < 2 then .inn (1 + mixM c 2 h)
  else if way = 2 then .fix (mixM c 5 p)
  else if way = 3 then .byy (mixM c 3 at_) (mixM c 5 p)
  else if way = 4 then .sum (mixM c 3 at_) (mixM c 4 at_)
  else if way = 5 then .less (mixM c 3 at_) (mixM c 4 at_)
  else if way = 6 then .mul (mixM c 3 at_) (mixM c 4 at_)
  else if way = 7 then .anew (mixM c 3 at_)
  else .opn (mixM c 3 at_)
theorem opBy_ok {c at_ p h : Int} (ha : 0 ≤ at_) (hp : 0 < p) (hh : 0 < h) : (opBy c at_ p h).ok p h at_ = true := by
  have m2 := mixM_lt c 2 hh
  have m5 := mixM_lt c 5 hp
  unfold opBy
  dsimp only
  by_cases a : at_ = 0 ∨ mixM c 1 9 < 2
  · rw [if_pos a]
    simp only [Op.ok, Bool.and_eq_true, decide_eq_true_iff]
    omega
  · rw [if_neg a]
    have m3 := mixM_lt c 3 (show 0 < at_ by omega)
    have m4 := mixM_lt c 4 (show 0 < at_ by omega)
    repeat' split
    all_goals (simp only [Op.ok, Bool.and_eq_true, decide_eq_true_iff]; omega)
theorem runO_step_by (c at_ p h f : Int) (ha : 0 ≤ at_) (hp : 0 < p) (hh : 0 < h) : runO S__law_step_by [.d (.int c), .d (.int at_), tbl p h f] = .ok (.f (.d (opBy c at_ p h).D)) := by
  unfold S__law_step_by B__law_step_by opBy
  rw [runO_mk]
  have w1 := mixM_lt c 1 (show (0 : Int) < 9 by omega)
  have r1 := run_mix c 1 9 (by omega)
  have r2 := run_mix c 2 h hh
  generalize mixM c 1 9 = way at *
  dsimp only
  by_cases a : at_ = 0
  · simp (disch := first | rfl | assumption | omega | simp [*]) [r1, r2, a]
    rfl
  · have ap : 0 < at_ := by omega
    have r3 := run_mix c 3 at_ ap
    have r4 := run_mix c 4 at_ ap
    have r5 := run_mix c 5 p hp
    generalize mixM c 3 at_ = one at *
    generalize mixM c 4 at_ = two at *
    generalize mixM c 5 p = number at *
    generalize mixM c 2 h = hd at *
    by_cases b : way < 2
    · simp (disch := first | rfl | assumption | omega | simp [*]) [r1, r2, a, b]
      rfl
    · have cs : way = 2 ∨ way = 3 ∨ way = 4 ∨ way = 5 ∨ way = 6 ∨ way = 7 ∨ way = 8 := by omega
      have b1 : ∀ a b : PyData, atI ([a, b] : List PyData) (4 - 4) = some a := fun a b => rfl
      have b2 : ∀ a b : PyData, atI ([a, b] : List PyData) (5 - 4) = some b := fun a b => rfl
      have b3 : ∀ a b : PyData, atI ([a, b] : List PyData) (7 - 7) = some a := fun a b => rfl
      have b4 : ∀ a b : PyData, atI ([a, b] : List PyData) (8 - 7) = some b := fun a b => rfl
      rcases cs with rfl | rfl | rfl | rfl | rfl | rfl | rfl <;>
        (simp (disch := first | rfl | assumption | omega | simp [*]) [r1, r2, r3, r4, r5, a, ix2_0, ix2_1, b1, b2, b3, b4]; rfl)
def opsBy (ns : List Int) (start many p h : Int) : List Op := (List.range many.toNat).map fun (k : Nat) => opBy (cellAt ns (start + (k : Int))) k p h
theorem opsBy_length (ns : List Int) (start many p h : Int) : (opsBy ns start many p h).length = many.toNat := by unfold opsBy; simp
theorem opsBy_ok (ns : List Int) (start many p h : Int) (hp : 0 < p) (hh : 0 < h) : okL p h (opsBy ns start many p h) = true := by
  unfold okL
  rw [List.all_eq_true]
  intro b m
  obtain ⟨i, hi, rfl⟩ := List.mem_mapIdx.mp m
  have := opBy_ok (c := cellAt ns (start + (i : Int))) (at_ := i) (p := p) (h := h) (by omega) hp hh
  simpa [opsBy] using this
def opsT (os : List Op) : SV := SV.dl (os.map Op.D)
/-- what steps_by tells, as a tree -/
theorem runO_steps_by (ns : List Int) (start many p h f : Int) (hs : 0 ≤ start) (hm : 0 ≤ many) (hm2 : many < 1000) (hp : 0 < p) (hh : 0 < h) :
    runO S__law_steps_by [.sc ns, .d (.int start), .d (.int many), tbl p h f] = .ok (opsT (opsBy ns start many p h)) := by
  unfold S__law_steps_by B__law_steps_by
  rw [runO_mk, vRet_ap, finO_ret]
  rw [comp_lstT (List.range many.toNat) (fun (k : Nat) => .int (k : Int)) (fun _ => true) (fun (k : Nat) => .f (.d (opBy (cellAt ns (start + (k : Int))) k p h).D))]
  · rw [List.filter_eq_self.mpr (fun _ _ => rfl), map_dl]
    unfold opsT opsBy
    rw [List.map_map]
    rfl
  · simp (disch := first | rfl | assumption | omega | simp [*])
    unfold rngP
    simp
  · rw [List.length_range]; omega
  · intro k _
    refine ⟨_, gN_ap (t := .no) rfl rfl, rfl, fun _ => ?_⟩
    rw [vCall_raw]
    have := runO_step_by (cellAt ns (start + (k : Int))) k p h f (by omega) hp hh
    simp (disch := first | rfl | assumption | omega | simp [*]) [this]
/-! ### steps spoilt -/
def nth3 (a b c k : Int) : Int := if k % 3 = 0 then a else if k % 3 = 1 then b else c
theorem at3 (a b c k : Int) : atI ([.int a, .int b, .int c] : List PyData) (k % 3) = some (.int (nth3 a b c k)) := by
  have h0 := Int.emod_nonneg k (show (3 : Int) ≠ 0 by omega)
  have h1 := Int.emod_lt_of_pos k (show (0 : Int) < 3 by omega)
  unfold nth3
  have cs : k % 3 = 0 ∨ k % 3 = 1 ∨ k % 3 = 2 := by omega
  rcases cs with e | e | e <;> rw [e] <;> rfl
def hurtO (o : Op) (at_ c p h : Int) : Op :=
  let far := nth3 (-1) at_ (at_ + 1 + c / 8 % 10) c
  match o with
  | .inn _ => .inn (nth3 0 (h + 1) (-1) c)
  | .fix _ => .fix (nth3 (-1) p (p + c / 8 % 100) c)
  | .byy a n => if c / 3 % 2 = 0 then .byy a (nth3 (-1) p (p + c / 8 % 100) c) else .byy far n
  | .sum a b => if c / 3 % 2 = 0 then .sum a far else .sum far b
  | .less a b => if c / 3 % 2 = 0 then .less a far else .less far b
  | .mul a b => if c / 3 % 2 = 0 then .mul a far else .mul far b
  | .anew _ => .anew far
  | .opn _ => .opn far
theorem hurtO_bad (o : Op) (at_ c p h : Int) (ha : 0 ≤ at_) (hp : 0 < p) : (hurtO o at_ c p h).ok p h at_ = false := by
  have q0 := Int.emod_nonneg (c / 8) (show (10 : Int) ≠ 0 by omega)
  have q1 := Int.emod_nonneg (c / 8) (show (100 : Int) ≠ 0 by omega)
  have hf : ¬ (0 ≤ nth3 (-1) at_ (at_ + 1 + c / 8 % 10) c ∧ nth3 (-1) at_ (at_ + 1 + c / 8 % 10) c < at_) := by
    unfold nth3; repeat' split
    all_goals omega
  have hn : ¬ (0 ≤ nth3 (-1) p (p + c / 8 % 100) c ∧ nth3 (-1) p (p + c / 8 % 100) c < p) := by
    unfold nth3; repeat' split
    all_goals omega
  have hi : ¬ (1 ≤ nth3 0 (h + 1) (-1) c ∧ nth3 0 (h + 1) (-1) c ≤ h) := by
    unfold nth3; repeat' split
    all_goals omega
  rw [Bool.eq_false_iff]
  intro z
  unfold hurtO at z
  cases o <;> dsimp only at z <;> (repeat' split at z) <;> simp only [Op.ok, Bool.and_eq_true, decide_eq_true_iff] at z <;> omega
theorem run_hurt (o : Op) (at_ c p h f : Int) (ha : 0 ≤ at_) (ha2 : at_ < 1000) (hp : 0 < p ∧ p < 1000) (hh : 0 < h ∧ h < 1000) : run S__law_hurt [.d o.D, .d (.int at_), .d (.int c), tbl p h f] = .ok (.d (hurtO o at_ c p h).D) := by
  unfold S__law_hurt B__law_hurt hurtO
  rw [run_mk]
  dsimp only
  have hfar := at3 (-1) at_ (at_ + 1 + c / 8 % 10) c
  have hi := at3 0 (h + 1) (-1) c
  have hn := at3 (-1) p (p + c / 8 % 100) c
  have cf2 : ∀ a b : PyData, cutP ([a, b] : List PyData) (some 2) none = [] := fun a b => by rw [cut_from _ (by omega)]; rfl
  have cf3 : ∀ a b c : PyData, cutP ([a, b, c] : List PyData) (some 2) none = [c] := fun a b c => by rw [cut_from _ (by omega)]; rfl
  generalize nth3 (-1) at_ (at_ + 1 + c / 8 % 10) c = far at *
  generalize nth3 0 (h + 1) (-1) c = v1 at *
  generalize nth3 (-1) p (p + c / 8 % 100) c = v2 at *
  cases o <;> unfold Op.D <;> by_cases q : c / 3 % 2 = 0 <;> simp (disch := first | rfl | assumption | omega | simp [*]) [ix2_0, ix2_1, ix3_0, ix3_1, ix3_2, in_w3, hfar, hi, hn, q, cf2, cf3]
end VL

set_option Elab.async false
set_option linter.all false
set_option maxRecDepth 100000
set_option maxHeartbeats 4000000
namespace VL
open PySem PySem.Spec PyProof.Rows L2

theorem cop_eq_b (a b : Bool) : Cop.h .eq (.bool a) (.bool b) = .ok (.d (.bool (a == b))) := by
  show eqP (.bool a) (.bool b) = _
  unfold eqP
  rw [if_pos ⟨rfl, rfl⟩]
  cases a <;> cases b <;> rfl
@[simp] theorem isI_bb (b : Bool) : isI .bool (.bool b) = true := rfl
@[simp] theorem run_told (a b : Bool) : run S__law_told [.d (.bool a), .d (.bool b)] = .ok (.d (.bool (a == b))) := by
  unfold S__law_told B__law_told
  rw [run_mk]
  simp [cop_eq_b]
theorem vDG3_ap (k1 k2 k3 : Str) (f1 f2 f3 : FP) (g : FD) (d : FP) (e : Env) : vDG3 k1 k2 k3 f1 f2 f3 g d e = (f1 e).bind fun x1 => (f2 e).bind fun x2 => (f3 e).bind fun x3 => (g e).bind fun s => (d e).bind fun y => dg3 k1 k2 k3 x1 x2 x3 y s := rfl
theorem dg3_s (k1 k2 k3 s : Str) (x1 x2 x3 y : FV) : dg3 k1 k2 k3 x1 x2 x3 y (.str s) = .ok (if s = k1 then x1 else if s = k2 then x2 else if s = k3 then x3 else y) := rfl
theorem needsM_append (h f : Int) (a b : List Op) : needsM h f (a ++ b) = needsM h f a + needsM h f b := by
  unfold needsM
  rw [List.map_append, List.sum_append]
theorem needs_rng (h f : Int) (hh : 0 ≤ h ∧ h ≤ 7) (hf : 0 ≤ f ∧ f ≤ 2) (o : Op) : 0 ≤ o.needs h f ∧ o.needs h f ≤ 14 := by
  have : 0 ≤ f * h ∧ f * h ≤ 14 := by
    have cs : f = 0 ∨ f = 1 ∨ f = 2 := by omega
    rcases cs with rfl | rfl | rfl <;> omega
  cases o <;> simp only [Op.needs] <;> omega
theorem run_lneeds (p h f : Int) (os : List Op) (hf : 0 ≤ f ∧ f ≤ 2) : run S__law_needs [.d (opsD os), tbl p h f] = .ok (.d (.int (needsM h f os))) := by
  unfold S__law_needs B__law_needs
  rw [run_mk]
  obtain ⟨I, hI⟩ : ∃ I : Nat → Env → Prop, ∀ j e, I j e ↔ ∃ s3, free s3 = true ∧ e = [.va (.f (.d (opsD os))), .va (.f (tbl p h f)), .va (.f (.d (.int (needsM h f (os.take j))))), s3] := ⟨_, fun _ _ => Iff.rfl⟩
  have hit : asL (opsD os) = .ok (os.map Op.D) := rfl
  simp (disch := first | rfl | assumption | omega | simp [*]) [hit]
  refine fin_wp (wp_for I ?_ ?_ ?_)
  · exact (hI _ _).mpr ⟨.no, rfl, rfl⟩
  · intro j x e hx h1
    obtain ⟨s3, h3, rfl⟩ := (hI _ _).mp h1
    rw [List.getElem?_map] at hx
    cases hj : os[j]? with
    | none => rw [hj] at hx; cases hx
    | some o =>
      rw [hj] at hx
      cases hx
      rw [gN_ap (t := s3) rfl h3, oW_some]
      have tk : needsM h f (os.take (j + 1)) = needsM h f (os.take j) + o.needs h f := by
        rw [take_succ' hj, needsM_append]
        show _ + (o.needs h f + 0) = _
        rw [Int.add_zero]
      rw [show (I (j + 1)) = I (j + 1) from rfl]
      have key : ∀ s : Slot, I (j + 1) [.va (.f (.d (opsD os))), .va (.f (tbl p h f)), .va (.f (.d (.int (needsM h f (os.take j) + o.needs h f)))), .va (.f (.d o.D))] := fun _ => (hI _ _).mpr ⟨.va (.f (.d o.D)), rfl, by rw [tk]⟩
      have key := key .no
      cases o <;> unfold Op.D Op.needs at key <;> unfold Op.D <;> simp (disch := first | rfl | assumption | omega | simp [*]) [ix2_0, ix2_1, ix3_0, vDG3_ap, dg3_s] <;> first | exact key | (rw [Int.add_zero] at key; exact key) | skip
  · intro e h1
    obtain ⟨s3, h3, rfl⟩ := (hI _ _).mp h1
    rw [List.length_map, List.take_length]
    simp
theorem run_told_needs (p h f : Int) (os : List Op) (hl : os.length < 1000) (hf : 0 ≤ f ∧ f ≤ 2) : run S__law_told_needs [tbl p h f, .d (opsD os)] = .ok (.d (if rightM p h os = true then .int (needsM h f os) else .none)) := by
  unfold S__law_told_needs B__law_told_needs
  rw [run_mk]
  have hn := run_needs p h f os hl hf
  by_cases hr : rightM p h os = true
  · rw [if_pos hr] at hn ⊢
    have ho := runO_flat rfl hn
    rw [vTry_ap]
    simp only [vRet_ap, vCall_raw, aC_ap, aN_ap, vVar_ap]
    simp (disch := first | rfl | assumption | omega | simp [*]) [ho]
  · rw [if_neg hr] at hn ⊢
    have ho : runO S_needs [tbl p h f, .d (opsD os)] = .err "BadSteps" := by
      rw [run_runO] at hn
      cases z : runO S_needs [tbl p h f, .d (opsD os)] with
      | ok s => rw [z] at hn; have r' : frF s = .err _ := hn; unfold frF at r'; split at r' <;> cases r'
      | err c => rw [z] at hn; cases hn; rfl
      | bad => rw [z] at hn; cases hn
    rw [vTry_ap]
    simp only [vRet_ap, vCall_raw, aC_ap, aN_ap, vVar_ap]
    simp (disch := first | rfl | assumption | omega | simp [*]) [ho, subE, offI]
end VL

set_option Elab.async false
set_option linter.all false
set_option maxRecDepth 100000
set_option maxHeartbeats 4000000
namespace VL
open PySem PySem.Spec PyProof.Rows L2

theorem strOk_D : ∀ o : Op, fit 1 o.D = true := fun o => by cases o <;> (unfold Op.D fit; simp [fit])
theorem fit_ops (os : List Op) : fit 2 (opsD os) = true := by
  unfold opsD
  show (os.map Op.D).all (fit 1) = true
  rw [List.all_eq_true]
  intro x m
  obtain ⟨o, _, rfl⟩ := List.mem_map.mp m
  exact strOk_D o
@[simp] theorem cop_eq_ops (os : List Op) : Cop.h .eq (opsD os) (opsD os) = .ok (.d (.bool true)) := by
  rw [cop_eq 2 (fit_ops os) (fit_ops os)]
  simp
theorem okL_bad {p h : Int} {os : List Op} {i : Nat} {o : Op} (hi : os[i]? = some o) (hb : o.ok p h i = false) : okL p h os = false := by
  rw [Bool.eq_false_iff]
  intro z
  unfold okL at z
  rw [List.all_eq_true] at z
  have : (o.ok p h i) ∈ os.mapIdx fun i o => o.ok p h i := by
    obtain ⟨il, e⟩ := List.getElem?_eq_some_iff.mp hi
    exact List.mem_mapIdx.mpr ⟨i, il, by rw [e]⟩
  have := z _ this
  rw [hb] at this
  cases this
@[simp] theorem frF_opsT (os : List Op) : frF (opsT os) = .ok (.d (opsD os)) := frF_dl _
theorem fzB_opsT (i : Nat) (e : Env) (os : List Op) : fzB i e (some (.va (opsT os))) = .nx (e.set i (.va (.f (.d (opsD os))))) := by
  rw [fzB_va, frF_opsT, fzA_ok]
theorem run_law10 (ns : List Int) : run S_law_v9 [.sc ns] = .ok (.d (.bool true)) := by
  unfold S_law_v9 B_law_v9
  rw [run_mk]
  have t := tab_ok (cellAt ns 0)
  have tp := t.pos
  have t3 := t.h3
  have t7 := t.h7
  have thp := t.hp
  have f1 := t.f1
  have f2 := t.f2
  have fh := t.fh
  have hb := run_table_by (cellAt ns 0)
  generalize tabP (cellAt ns 0) = p at *
  generalize tabH (cellAt ns 0) = h at *
  generalize tabF (cellAt ns 0) = f at *
  have q0 := Int.emod_nonneg (cellAt ns 1) (show (24 : Int) ≠ 0 by omega)
  have q1 := Int.emod_lt_of_pos (cellAt ns 1) (show (0 : Int) < 24 by omega)
  have hst := runO_steps_by ns 4 (1 + cellAt ns 1 % 24) p h f (by omega) (by omega) (by omega) (by omega) (by omega)
  have ol := opsBy_length ns 4 (1 + cellAt ns 1 % 24) p h
  have oo := opsBy_ok ns 4 (1 + cellAt ns 1 % 24) p h (by omega) (by omega)
  generalize opsBy ns 4 (1 + cellAt ns 1 % 24) p h = os at *
  refine step_nx (e' := [.va (.f (.sc ns)), .va (.f (tbl p h f)), .no, .no, .no, .no, .no]) (by simp (disch := first | rfl | assumption | omega | simp [*]) [hb]) ?_
  refine step_nx (e' := [.va (.f (.sc ns)), .va (.f (tbl p h f)), .va (opsT os), .no, .no, .no, .no]) ?_ ?_
  · rw [vSetO_ap, vCall_raw]
    simp (disch := first | rfl | assumption | omega | simp [*]) [hst]
  refine step_nx (e' := [.va (.f (.sc ns)), .va (.f (tbl p h f)), .va (opsT os), .va (.f (.d (.bool (decide (cellAt ns 2 % 3 = 0))))), .no, .no, .no]) (by simp (disch := first | rfl | assumption | omega | simp [*])) ?_
  obtain ⟨I, hI⟩ : ∃ I : Env → Prop, ∀ e, I e ↔ ∃ os' s2 s4, free s4 = true ∧ os'.length < 1000 ∧ rightM p h os' = decide (cellAt ns 2 % 3 = 0) ∧ (s2 = .va (opsT os') ∨ s2 = .va (.f (.d (opsD os')))) ∧ e = [.va (.f (.sc ns)), .va (.f (tbl p h f)), s2, .va (.f (.d (.bool (decide (cellAt ns 2 % 3 = 0))))), s4, .no, .no] := ⟨_, fun _ => Iff.rfl⟩
  refine step_wp (P := I) ?_ fun e he => ?_
  · by_cases hg : cellAt ns 2 % 3 = 0
    · simp (disch := first | rfl | assumption | omega | simp [*]) [hg]
      refine (hI _).mpr ⟨os, .va (opsT os), .no, rfl, by omega, ?_, .inl rfl, by simp [hg]⟩
      unfold rightM
      rw [oo, ol]
      simp [hg]
      omega
    · by_cases hx : cellAt ns 2 / 3 % 6 = 1
      · have w0 := Int.emod_nonneg (cellAt ns 2 / 18) (show (2 : Int) ≠ 0 by omega)
        have w1 := Int.emod_lt_of_pos (cellAt ns 2 / 18) (show (0 : Int) < 2 by omega)
        have cs : cellAt ns 2 / 18 % 2 = 0 ∨ cellAt ns 2 / 18 % 2 = 1 := by omega
        rcases cs with e | e
        · simp (disch := first | rfl | assumption | omega | simp [*]) [hg, hx, e, ix2_0, ix2_1]
          exact (hI _).mpr ⟨[], .va (.f (.d (opsD []))), .no, rfl, by simp, by simp [rightM, hg], .inr rfl, by simp [hg]; rfl⟩
        · simp (disch := first | rfl | assumption | omega | simp [*]) [hg, hx, e, ix2_0, ix2_1]
          refine (hI _).mpr ⟨List.replicate 25 (.fix 1), .va (.f (.d (opsD (List.replicate 25 (.fix 1))))), .no, rfl, by simp, by simp [rightM, hg], .inr rfl, ?_⟩
          simp [hg, opsD, Op.D, List.replicate]
      · have ol2 : (os.map Op.D).length = os.length := List.length_map ..
        have w0 := Int.emod_nonneg (cellAt ns 3) (show (os.length : Int) ≠ 0 by omega)
        have w1 := Int.emod_lt_of_pos (cellAt ns 3) (show 0 < (os.length : Int) by omega)
        have hpl : plL (plN 2) [.va (.f (.sc ns)), .va (.f (tbl p h f)), .va (opsT os), .va (.f (.d (.bool (decide (cellAt ns 2 % 3 = 0))))), .no, .no, .no] = .ok (.d (.int os.length)) := by
          unfold opsT
          simp (disch := first | rfl | assumption | omega | simp [*]) [ol2]
        rw [show (decide (cellAt ns 2 % 3 = 0)) = false from decide_eq_false hg] at *
        simp (disch := first | rfl | assumption | omega | simp [*]) [hg, hx]
        simp only [plL_ap, plN_ap, rd_ap, nth_0, nth_s] at hpl
        have hpl' : plL1 (2, [], opsT os) = .ok (.d (.int os.length)) := by
          unfold opsT; rw [plL1_dl, ol2]
        simp (disch := first | rfl | assumption | omega | simp [*]) [hpl']
        generalize cellAt ns 3 % (os.length : Int) = at_ at *
        have il : at_.toNat < os.length := by omega
        have hat : atI (os.map Op.D) at_ = some (os[at_.toNat].D) := by
          rw [atI_pos w0, List.getElem?_map, List.getElem?_eq_getElem il]; rfl
        have hps := plS_dl 2 [] (os.map Op.D) at_ _ hat
        have hh := run_hurt os[at_.toNat] at_ (cellAt ns 3 / 24) p h f (by omega) (by omega) (by omega) (by omega)
        have hbad := hurtO_bad os[at_.toNat] at_ (cellAt ns 3 / 24) p h (by omega) (by omega)
        generalize hurtO os[at_.toNat] at_ (cellAt ns 3 / 24) p h = o2 at *
        have sl : at_ < ((os.map Op.D).length : Int) := by omega
        unfold opsT
        simp (disch := first | rfl | assumption | omega | simp [*]) [hps, hh]
        refine (hI _).mpr ⟨os.set at_.toNat o2, .va (opsT (os.set at_.toNat o2)), .va (.f (.d (.int at_))), rfl, by rw [List.length_set]; omega, ?_, .inl rfl, ?_⟩
        · unfold rightM
          rw [okL_bad (i := at_.toNat) (o := o2) (by rw [List.getElem?_set_self il]) (by rw [show ((at_.toNat : Nat) : Int) = at_ by omega]; exact hbad)]
          simp
        · unfold opsT; rw [List.map_set]
  obtain ⟨os', s2, s4, h4, ll, hr, hs2, rfl⟩ := (hI _).mp he
  refine step_nx (e' := [.va (.f (.sc ns)), .va (.f (tbl p h f)), .va (.f (.d (opsD os'))), .va (.f (.d (.bool (decide (cellAt ns 2 % 3 = 0))))), s4, .no, .no]) ?_ ?_
  · rcases hs2 with rfl | rfl <;> simp
  refine step_nx (e' := [.va (.f (.sc ns)), .va (.f (tbl p h f)), .va (.f (.d (opsD os'))), .va (.f (.d (.bool (decide (cellAt ns 2 % 3 = 0))))), s4, .va (.f (.d (opsD os'))), .no]) ?_ ?_
  · have : listP (opsD os') = .ok (SV.dl (os'.map Op.D)) := rfl
    have h2 : frF (SV.dl (os'.map Op.D)) = .ok (.d (opsD os')) := frF_dl _
    simp (disch := first | rfl | assumption | omega | simp [*]) [this, h2]
  have h1 := run_right p h f os' ll
  have h2 := run_told_needs p h f os' ll (by omega)
  have h3 := run_lneeds p h f os' (by omega)
  rw [hr] at h1 h2
  by_cases hg : cellAt ns 2 % 3 = 0
  · simp (disch := first | rfl | assumption | omega | simp [*]) [h1, h2, h3, hg]
  · simp (disch := first | rfl | assumption | omega | simp [*]) [h1, h2, h3, hg]
theorem law10 : ∀ ns : List Int, ns.length ≤ 63 → ∃ a, S_law_v9 [.va (.f (.sc ns))] = .ret (.f (.d (.bool true))) a := fun ns _ => law_end (run_law10 ns)
end VL

set_option Elab.async false
set_option linter.all false
set_option maxRecDepth 100000
set_option maxHeartbeats 4000000
namespace VL
open PySem PySem.Spec PyProof.Rows L2

/-! ### places in lists of lists -/
theorem putP_va {e : Env} {i : Nat} {t u : SV} {ps : List Pst} {ys : List SV} (h : e[i]? = some (.va t)) : putP e (i, ps, u) ys = some ((e.map dv).set i (.va (updS t ps (.own ys)))) := by
  unfold putP
  rw [tree_va h]
  rfl
theorem atI_get {α : Type} {xs : List α} {k : Int} {x : α} (h0 : 0 ≤ k) (h : atI xs k = some x) : xs[k.toNat]? = some x := by rwa [atI_pos h0] at h
theorem upd_dll {qs : List (List PyData)} {k : Int} {q q' : List PyData} (h0 : 0 ≤ k) (h : atI qs k = some q) : updS (SV.dll qs) [.ix k] (SV.dl q') = SV.dll (qs.set k.toNat q') := by
  have hk := atI_get h0 h
  have hl : k.toNat < qs.length := (List.getElem?_eq_some_iff.mp hk).1
  have hs : stepS (SV.dll qs) (.ix k) = some (SV.dl q) := by
    show atI (qs.map SV.dl) k = _
    rw [atI_map, h]; rfl
  show (match stepS (SV.dll qs) (.ix k) with | some u => setS1 (SV.dll qs) (.ix k) (updS u [] (SV.dl q')) | none => SV.dll qs) = _
  rw [hs]
  show SV.own (setIx (qs.map SV.dl) k (SV.dl q')) = _
  unfold setIx
  have hx : ixN (qs.map SV.dl).length k = some k.toNat := by
    unfold ixN
    rw [if_pos h0, if_pos (by rw [List.length_map]; omega)]
  rw [hx]
  unfold SV.dll
  rw [List.map_set]
theorem pop_dll {e : Env} {i : Nat} {qs : List (List PyData)} {k : Int} {y : PyData} {q : List PyData} (h : e[i]? = some (.va (SV.dll qs))) (h0 : 0 ≤ k) (hk : atI qs k = some (y :: q)) : pop1 e (i, [.ix k], SV.dl (y :: q)) = .ok (.f (.d y)) ((e.map dv).set i (.va (SV.dll (qs.set k.toNat q)))) := by
  show oE (.f (.d y)) (putP e (i, [.ix k], SV.dl (y :: q)) (q.map fun p => .f (.d p))) = _
  rw [putP_va h]
  show Out.ok _ ((e.map dv).set i (.va (updS (SV.dll qs) [.ix k] (SV.dl q)))) = _
  rw [upd_dll h0 hk]
theorem setI_dll {e : Env} {i : Nat} {qs : List (List PyData)} {k : Int} {q : List PyData} (h : e[i]? = some (.va (SV.dll qs))) (h0 : 0 ≤ k) (h1 : k < qs.length) : setI1 e (i, [], SV.dll qs) (SV.dl q) (.int k) = .nx ((e.map dv).set i (.va (SV.dll (qs.set k.toNat q)))) := by
  show (match ixN (qs.map SV.dl).length k with | some j => (match putP e (i, [], SV.dll qs) ((qs.map SV.dl).set j (SV.dl q)) with | some e => Flow.nx e | none => .bad) | none => .bad) = _
  have hx : ixN (qs.map SV.dl).length k = some k.toNat := by
    unfold ixN
    rw [if_pos h0, if_pos (by rw [List.length_map]; exact h1)]
  rw [hx]
  dsimp only
  rw [putP_va h]
  show Flow.nx ((e.map dv).set i (.va (.own ((qs.map SV.dl).set k.toNat (SV.dl q))))) = _
  unfold SV.dll
  rw [List.map_set]
theorem ins_dll {e : Env} {i : Nat} {qs : List (List PyData)} {k j : Int} {y : PyData} {q : List PyData} (h : e[i]? = some (.va (SV.dll qs))) (h0 : 0 ≤ k) (hk : atI qs k = some q) (hj : 0 ≤ j ∧ j < 9223372036854775808) (hl : q.length < 16777216) :
    ins1 e (i, [.ix k], SV.dl q) (.d y) (.int j) = .ok (.f (.d .none)) ((e.map dv).set i (.va (SV.dll (qs.set k.toNat (q.take j.toNat ++ [y] ++ q.drop j.toNat))))) := by
  show cIf (0 ≤ j ∧ j < 9223372036854775808 ∧ (q.map fun p => SV.f (.d p)).length < 16777216) (oE (.f (.d .none)) (putP e (i, [.ix k], SV.dl q) ((q.map fun p => SV.f (.d p)).take j.toNat ++ [.f (.d y)] ++ (q.map fun p => SV.f (.d p)).drop j.toNat))) .bad = _
  rw [cIf_pos ⟨hj.1, hj.2, by rw [List.length_map]; exact hl⟩, putP_va h]
  rw [show (q.map fun p => SV.f (.d p)).take j.toNat ++ [SV.f (.d y)] ++ (q.map fun p => SV.f (.d p)).drop j.toNat = (q.take j.toNat ++ [y] ++ q.drop j.toNat).map fun p => SV.f (.d p) by simp [List.map_take, List.map_drop]]
  show Out.ok _ ((e.map dv).set i (.va (updS (SV.dll qs) [.ix k] (SV.dl _)))) = _
  rw [upd_dll h0 hk]
theorem appE_dl {e : Env} {i : Nat} {u : SV} {ds : List PyData} {p : PyData} (h : e[i]? = some (.va (SV.dl ds))) (hl : ds.length < 16777216) : vAppE1 (i, [], u) (.f (.d p)) e = .ok (.f (.d .none)) ((e.map dv).set i (.va (SV.dl (ds ++ [p])))) := by
  unfold vAppE1 reP
  rw [rd_ap, h, rdS_va]
  show vApp1 e (i, [], SV.dl ds) (.f (.d p)) = _
  exact app_dl h hl
@[simp] theorem vAppE_ap (f : Env → Res Plc) (g : FE) (e : Env) : vAppE f g e = oR ((f e).bind lstP) fun x => if fldsOnly x.2.1 = true then (g e).bind (vAppE1 x) else .bad := rfl
@[simp] theorem vPop0_ap (f : Env → Res Plc) (e : Env) : vPop0 f e = oR ((f e).bind lstP) (pop1 e) := rfl
@[simp] theorem vIns_ap (f : Env → Res Plc) (g : FD) (h : FP) (e : Env) : vIns f g h e = oR ((f e).bind lstP) fun x => oR (g e) fun k => oR (h e) fun y => ins1 e x y k := rfl
@[simp] theorem fldsOnly_nil : fldsOnly [] = true := rfl
/-! ### inputs -/
def isInn (hd : Int) : Op → Bool
  | .inn x => decide (x = hd)
  | _ => false
def usedM (os : List Op) (hd : Int) : Nat := os.countP (isInn hd)
theorem inn_D (o : Op) (hd : Int) : (o.D = .tuple [.str "in", .int hd]) ↔ isInn hd o = true := by
  cases o <;> simp [Op.D, isInn]
theorem run_lused (os : List Op) (hd : Int) (hl : os.length < 1000) : run S__law_used [.d (opsD os), .d (.int hd)] = .ok (.d (.int (usedM os hd))) := by
  unfold S__law_used B__law_used
  rw [run_mk]
  simp (disch := first | rfl | assumption | omega | simp [*])
  rw [comp_lstT os Op.D (isInn hd) (fun o => .f (.d o.D))]
  · rw [map_dl]
    simp [usedM, List.countP_eq_length_filter]
  · simp [opsD]
  · omega
  · intro o _
    refine ⟨_, gN_ap (t := .no) rfl rfl, ?_, fun _ => rfl⟩
    have hc : Cop.h .eq o.D (.tuple [.str "in", .int hd]) = .ok (.d (.bool (isInn hd o))) := by
      rw [cop_eq (d := o.D) (e := .tuple [.str "in", .int hd]) 1 (strOk_D o) (strOk_D (.inn hd))]
      congr 3
      rw [Bool.eq_iff_iff, @decide_eq_true_iff _ (Classical.propDecidable _)]
      exact inn_D o hd
    simp (disch := first | rfl | assumption | omega | simp [*]) [hc]
theorem run_used (os : List Op) (hd : Int) (hl : os.length < 1000) : run S_used [.d (opsD os), .d (.int hd)] = .ok (.d (.int (usedM os hd))) := by
  unfold S_used B_used
  rw [run_mk]
  simp (disch := first | rfl | assumption | omega | simp [*])
  rw [comp_lstT os Op.D (isInn hd) (fun o => .f (.d o.D))]
  · rw [map_dl]
    simp [usedM, List.countP_eq_length_filter]
  · simp [opsD]
  · omega
  · intro o _
    refine ⟨_, gN_ap (t := .no) rfl rfl, ?_, fun _ => rfl⟩
    cases o <;> unfold Op.D isInn <;> simp (disch := first | rfl | assumption | omega | simp [*]) [ix2_0, ix2_1, ix3_0, ix3_1]
def goodRow (p : Int) (os : List Op) (k : Nat) (r : List Int) : Bool := (r.all fun c => decide (0 ≤ c) && decide (c < p)) && decide (usedM os ((k : Int) + 1) ≤ r.length)
def inOk (p h : Int) (os : List Op) (ins : List (List Int)) : Bool := decide ((ins.length : Int) = h) && (ins.mapIdx fun k r => goodRow p os k r).all id
theorem all_num (p h f : Int) (r : List Int) (hl : r.length ≤ 16777216) (e : Env) (i j : Nat) (h0 : e[0]? = some (.va (.f (tbl p h f)))) (hi : e[i]? = some (.va (.f (.d (.list (r.map .int)))))) (hj : j < e.length) (hij : j ≠ 0) :
    toT (v1 allP (frD (vComp (vItL (vVarD i)) (gN j) vYes (vCall S_is_number (aC (vVar 0) (aC (vVar j) aN))) [j]))) e = .ok (r.all fun c => decide (0 ≤ c) && decide (c < p)) := by
  rw [toT_ap, v1_ap, frD_ap, comp_lstT r .int (fun _ => true) (fun c => .f (.d (.bool (decide (0 ≤ c) && decide (c < p)))))]
  · rw [List.filter_eq_self.mpr (fun _ _ => rfl), map_dl]
    rw [show (r.map fun c => PyData.bool (decide (0 ≤ c) && decide (c < p))) = (r.map fun c => decide (0 ≤ c) && decide (c < p)).map .bool by rw [List.map_map]; rfl]
    simp [-List.map_map, List.all_map]
  · simp [hi]
  · exact hl
  · intro c _
    refine ⟨_, gN_ap (t := .no) (by simp [hj]) rfl, rfl, fun _ => elt_leaf rfl ?_⟩
    have := run_is_number p h f c
    have z : ((e.set j .no).set j (.va (.f (.d (.int c)))))[0]? = some (.va (.f (tbl p h f))) := by
      rw [List.getElem?_set_ne hij, List.getElem?_set_ne hij, h0]
    have z2 : ((e.set j .no).set j (.va (.f (.d (.int c)))))[j]? = some (.va (.f (.d (.int c)))) := List.getElem?_set_self (by rw [List.length_set]; exact hj)
    simp only [wipeE_cons, wipeE_nil]
    rw [vCall_fr, aC_ap, aC_ap, vVar_ap, vVar_ap, z, z2]
    simp [this]
theorem run_check_inputs (p h f : Int) (os : List Op) (ins : List (List Int)) (ho : os.length < 1000) (hl : ins.length < 1000) (hr : ∀ r ∈ ins, r.length < 1000) :
    run S_check_inputs [tbl p h f, .d (opsD os), .d (rowsP ins)] = if inOk p h os ins = true then .ok (.d .none) else .err "BadInputs" := by
  unfold S_check_inputs B_check_inputs
  rw [run_mk]
  have hlen : lenP (rowsP ins) = .ok (.d (.int ins.length)) := by unfold rowsP; rw [lenP_l, List.length_map]
  by_cases hn : (ins.length : Int) = h
  · have hz : vIfS (toT (vCmp .ne (toD (v1 lenP (vVarD 2))) (toD (vFld "Table" "hands" (vVar 0))))) (vRaise "BadInputs") vSkip ([tbl p h f, FV.d (opsD os), .d (rowsP ins)].map vaF ++ List.replicate 3 .no) = .nx [.va (.f (tbl p h f)), .va (.f (.d (opsD os))), .va (.f (.d (rowsP ins))), .no, .no, .no] := by
      simp (disch := first | rfl | assumption | omega | simp [*]) [hlen, hn]
    rw [vSeq_ap, hz, andThen_nx, vFor_ap]
    rw [show vItEnum (toD (vVar 2)) [.va (.f (tbl p h f)), .va (.f (.d (opsD os))), .va (.f (.d (rowsP ins))), .no, .no, .no] = .ok (enumP 0 (ins.map fun r => .list (r.map .int))) from by simp [rowsP]]
    rw [ofR_ok]
    obtain ⟨I, hI⟩ : ∃ I : Nat → Env → Prop, ∀ j e, I j e ↔ ∃ s3 s4, (free s3 = true ∧ free s4 = true) ∧ (∀ k r, k < j → ins[k]? = some r → goodRow p os k r = true) ∧ e = [.va (.f (tbl p h f)), .va (.f (.d (opsD os))), .va (.f (.d (rowsP ins))), s3, s4, .no] := ⟨_, fun _ _ => Iff.rfl⟩
    have key := wx_for (c := "BadInputs") (E := inOk p h os ins = false) (P := I ins.length) I (g := gT 2 (gsC (gN 3) (gsC (gN 4) gsN))) (b := vIfS (vOrT (vNotT (toT (v1 allP (frD (vComp (vItL (vVarD 4)) (gN 5) vYes (vCall S_is_number (aC (vVar 0) (aC (vVar 5) aN))) [5]))))) (toT (vCmp .lt (toD (v1 lenP (vVarD 4))) (frD (vCall S_used (aC (vVar 1) (aC (frO (v2 addV (vVarD 3) (toD (vC (.int 1))))) aN))))))) (vRaise "BadInputs") vSkip)
      (items := enumP 0 (ins.map fun r => .list (r.map .int))) (e := [.va (.f (tbl p h f)), .va (.f (.d (opsD os))), .va (.f (.d (rowsP ins))), .no, .no, .no]) ?_ ?_ ?_
    · generalize forL _ _ _ _ = fl at key ⊢
      cases fl with
      | nx e =>
        have k2 : I ins.length e := key
        obtain ⟨s3, s4, _, hall, rfl⟩ := (hI _ _).mp k2
        have : inOk p h os ins = true := by
          unfold inOk
          rw [decide_eq_true hn, Bool.true_and, List.all_eq_true]
          intro b m
          obtain ⟨i, hi, rfl⟩ := List.mem_mapIdx.mp m
          exact hall i _ hi (List.getElem?_eq_getElem hi)
        rw [if_pos this]
        rfl
      | err d e =>
        have k2 : d = "BadInputs" ∧ inOk p h os ins = false := key
        rw [k2.1, k2.2]
        simp
      | rt _ _ => exact key.elim
      | bad => exact key.elim
    · exact (hI _ _).mpr ⟨.no, .no, ⟨rfl, rfl⟩, fun k r hk => absurd hk (by omega), rfl⟩
    · intro j x e hx h1
      obtain ⟨s3, s4, ⟨h3, h4⟩, hall, rfl⟩ := (hI _ _).mp h1
      obtain ⟨d, hd, rfl⟩ := enum_get hx
      rw [List.getElem?_map] at hd
      cases hj : ins[j]? with
      | none => rw [hj] at hd; cases hd
      | some r =>
        rw [hj] at hd
        cases hd
        have rl := hr r (List.mem_of_getElem? hj)
        have hu := run_used os ((j : Int) + 1) ho
        have ha := all_num p h f r (by omega) [.va (.f (tbl p h f)), .va (.f (.d (opsD os))), .va (.f (.d (rowsP ins))), .va (.f (.d (.int j))), .va (.f (.d (.list (r.map .int)))), .no] 4 5 rfl rfl (by simp) (by omega)
        rw [show (gT 2 (gsC (gN 3) (gsC (gN 4) gsN))) (.tuple [.int (j : Int), .list (r.map .int)]) [.va (.f (tbl p h f)), .va (.f (.d (opsD os))), .va (.f (.d (rowsP ins))), s3, s4, .no] = some [.va (.f (tbl p h f)), .va (.f (.d (opsD os))), .va (.f (.d (rowsP ins))), .va (.f (.d (.int j))), .va (.f (.d (.list (r.map .int)))), .no] from by simp [h3, h4]]
        rw [oW_some, vIfS_ap, vOrT_ap, vNotT_ap, ha]
        by_cases g1 : (r.all fun c => decide (0 ≤ c) && decide (c < p)) = true
        · by_cases g2 : usedM os ((j : Int) + 1) ≤ r.length
          · have g2' : ¬ (r.length : Int) < (usedM os ((j : Int) + 1) : Int) := by omega
            have gr : goodRow p os j r = true := by unfold goodRow; rw [g1, decide_eq_true g2]; rfl
            rw [g1]
            simp (disch := first | rfl | assumption | omega | simp [*]) [hu, g2']
            refine (hI _ _).mpr ⟨_, _, ⟨rfl, rfl⟩, fun k r' hk hr' => ?_, rfl⟩
            by_cases e : k = j
            · subst e; rw [hj] at hr'; cases hr'; exact gr
            · exact hall k r' (by omega) hr'
          · have g2' : (r.length : Int) < (usedM os ((j : Int) + 1) : Int) := by omega
            have gr : goodRow p os j r = false := by unfold goodRow; rw [decide_eq_false g2, Bool.and_false]
            have hb : inOk p h os ins = false := by
              rw [Bool.eq_false_iff]; intro z
              unfold inOk at z
              rw [Bool.and_eq_true, List.all_eq_true] at z
              obtain ⟨jl, ej⟩ := List.getElem?_eq_some_iff.mp hj
              have := z.2 (goodRow p os j r) (List.mem_mapIdx.mpr ⟨j, jl, by rw [ej]⟩)
              rw [gr] at this; cases this
            rw [g1]
            simp (disch := first | rfl | assumption | omega | simp [*]) [hu, g2', hb]
        · have gr : goodRow p os j r = false := by unfold goodRow; rw [Bool.eq_false_iff.mpr g1]; rfl
          have hb : inOk p h os ins = false := by
            rw [Bool.eq_false_iff]; intro z
            unfold inOk at z
            rw [Bool.and_eq_true, List.all_eq_true] at z
            obtain ⟨jl, ej⟩ := List.getElem?_eq_some_iff.mp hj
            have := z.2 (goodRow p os j r) (List.mem_mapIdx.mpr ⟨j, jl, by rw [ej]⟩)
            rw [gr] at this; cases this
          rw [Bool.eq_false_iff.mpr g1]
          simp (disch := first | rfl | assumption | omega | simp [*]) [hb]
    · intro e h1
      rwa [enumP_length, List.length_map] at h1
  · have hb : inOk p h os ins = false := by unfold inOk; rw [decide_eq_false hn]; rfl
    simp (disch := first | rfl | assumption | omega | simp [*]) [hlen, hn, hb]
end VL

set_option Elab.async false
set_option linter.all false
set_option maxRecDepth 100000
set_option maxHeartbeats 4000000
namespace VL
open PySem PySem.Spec PyProof.Rows L2

/-! ### the plain numbers -/
def valM (p : Int) (ins : List (List Int)) (pre : List Op) (found : List Int) : Op → Int
  | .inn hd => (ins.getD (hd - 1).toNat []).getD (usedM pre hd) 0
  | .fix n => n
  | .byy a n => found.getD a.toNat 0 * n % p
  | .sum a b => (found.getD a.toNat 0 + found.getD b.toNat 0) % p
  | .less a b => (found.getD a.toNat 0 - found.getD b.toNat 0) % p
  | .mul a b => found.getD a.toNat 0 * found.getD b.toNat 0 % p
  | .anew a => found.getD a.toNat 0
  | .opn a => found.getD a.toNat 0
def plainI (p : Int) (ins : List (List Int)) (os : List Op) : Nat → List Int
  | 0 => []
  | i + 1 => plainI p ins os i ++ (match os[i]? with | some o => [valM p ins (os.take i) (plainI p ins os i) o] | none => [])
def plainM (p : Int) (ins : List (List Int)) (os : List Op) : List Int := plainI p ins os os.length
theorem plainI_succ {p : Int} {ins : List (List Int)} {os : List Op} {i : Nat} {o : Op} (h : os[i]? = some o) : plainI p ins os (i + 1) = plainI p ins os i ++ [valM p ins (os.take i) (plainI p ins os i) o] := by
  show plainI p ins os i ++ (match os[i]? with | some o => [valM p ins (os.take i) (plainI p ins os i) o] | none => []) = _
  rw [h]
theorem plainI_length {p : Int} {ins : List (List Int)} {os : List Op} : ∀ i, i ≤ os.length → (plainI p ins os i).length = i
  | 0, _ => rfl
  | i + 1, h => by
    have hi : os[i]? = some os[i] := List.getElem?_eq_getElem (by omega)
    rw [plainI_succ hi, List.length_append, plainI_length i (by omega)]
    rfl
theorem okL_at {p h : Int} {os : List Op} (hk : okL p h os = true) {i : Nat} {o : Op} (hi : os[i]? = some o) : o.ok p h i = true := by
  cases z : o.ok p h i with
  | true => rfl
  | false => rw [okL_bad hi z] at hk; cases hk
theorem used_lt {os : List Op} {i : Nat} {hd : Int} (hi : os[i]? = some (.inn hd)) : usedM (os.take i) hd < usedM os hd := by
  obtain ⟨il, e⟩ := List.getElem?_eq_some_iff.mp hi
  unfold usedM
  have h1 : os.countP (isInn hd) = (os.take (i + 1)).countP (isInn hd) + (os.drop (i + 1)).countP (isInn hd) := by
    rw [← List.countP_append, List.take_append_drop]
  rw [take_succ' hi, List.countP_append] at h1
  have h2 : ([Op.inn hd] : List Op).countP (isInn hd) = 1 := by simp [isInn]
  omega
structure InOk (p h : Int) (os : List Op) (ins : List (List Int)) : Prop where
  len : (ins.length : Int) = h
  row : ∀ (k : Nat) (r : List Int), ins[k]? = some r → Rng p r ∧ usedM os ((k : Int) + 1) ≤ r.length
theorem inOk_iff {p h : Int} {os : List Op} {ins : List (List Int)} (z : inOk p h os ins = true) : InOk p h os ins := by
  unfold inOk at z
  rw [Bool.and_eq_true, List.all_eq_true, decide_eq_true_iff] at z
  refine ⟨z.1, fun k r hr => ?_⟩
  obtain ⟨kl, e⟩ := List.getElem?_eq_some_iff.mp hr
  have := z.2 (goodRow p os k r) (List.mem_mapIdx.mpr ⟨k, kl, by rw [e]⟩)
  unfold goodRow at this
  simp only [id_eq, Bool.and_eq_true, List.all_eq_true, decide_eq_true_iff] at this
  exact ⟨fun c m => this.1 c m, this.2⟩
/-- the input that a step uses -/
theorem in_at {p h : Int} {os : List Op} {ins : List (List Int)} (io : InOk p h os ins) (hk : okL p h os = true) {i : Nat} {hd : Int} (hi : os[i]? = some (.inn hd)) :
    1 ≤ hd ∧ hd ≤ h ∧ ∃ r c, ins[(hd - 1).toNat]? = some r ∧ r[usedM (os.take i) hd]? = some c ∧ (0 ≤ c ∧ c < p) ∧ (ins.getD (hd - 1).toNat []).getD (usedM (os.take i) hd) 0 = c := by
  have o := okL_at hk hi
  simp only [Op.ok, Bool.and_eq_true, decide_eq_true_iff] at o
  have kl : (hd - 1).toNat < ins.length := by have := io.len; omega
  have hr := List.getElem?_eq_getElem kl
  have rr := io.row _ _ hr
  rw [show (((hd - 1).toNat : Nat) : Int) + 1 = hd by omega] at rr
  have ul := used_lt hi
  have cl : usedM (os.take i) hd < ins[(hd - 1).toNat].length := by omega
  refine ⟨o.1, o.2, _, _, hr, List.getElem?_eq_getElem cl, rr.1 _ (List.getElem_mem cl), ?_⟩
  simp only [List.getD, hr, Option.getD_some, List.getElem?_eq_getElem cl]
theorem val_rng {p h : Int} {os : List Op} {ins : List (List Int)} (hp : 0 < p) (io : InOk p h os ins) (hk : okL p h os = true) {i : Nat} {o : Op} (hi : os[i]? = some o) {found : List Int} (hf : Rng p found) : 0 ≤ valM p ins (os.take i) found o ∧ valM p ins (os.take i) found o < p := by
  have gd : ∀ a : Nat, 0 ≤ found.getD a 0 ∧ found.getD a 0 < p := fun a => by
    simp only [List.getD]
    cases z : found[a]? with
    | none => exact ⟨by simp, by simpa using hp⟩
    | some c => exact hf.nth z
  have em : ∀ x : Int, 0 ≤ x % p ∧ x % p < p := fun x => ⟨Int.emod_nonneg _ (by omega), Int.emod_lt_of_pos _ hp⟩
  cases o with
  | inn hd =>
    obtain ⟨_, _, r, c, _, _, rc, e⟩ := in_at io hk hi
    have e2 : valM p ins (os.take i) found (.inn hd) = c := e
    rw [e2]; exact rc
  | fix n =>
    have o := okL_at hk hi
    simp only [Op.ok, Bool.and_eq_true, decide_eq_true_iff] at o
    exact o
  | byy a n => exact em _
  | sum a b => exact em _
  | less a b => exact em _
  | mul a b => exact em _
  | anew a => exact gd _
  | opn a => exact gd _
theorem plainI_rng {p h : Int} {os : List Op} {ins : List (List Int)} (hp : 0 < p) (io : InOk p h os ins) (hk : okL p h os = true) : ∀ i, i ≤ os.length → Rng p (plainI p ins os i)
  | 0, _ => fun c m => by cases m
  | i + 1, h => by
    have hi : os[i]? = some os[i] := List.getElem?_eq_getElem (by omega)
    have ih := plainI_rng hp io hk i (by omega)
    rw [plainI_succ hi]
    intro c m
    rcases List.mem_append.mp m with m | m
    · exact ih c m
    · have e := List.mem_singleton.mp m
      rw [e]
      exact val_rng hp io hk hi ih
def takenM (os : List Op) (h : Int) (i : Nat) : List Int := (List.range (h + 1).toNat).map fun (k : Nat) => (usedM (os.take i) (k : Int) : Int)
theorem used_step {os : List Op} {i : Nat} {o : Op} (hi : os[i]? = some o) (hd : Int) : usedM (os.take (i + 1)) hd = usedM (os.take i) hd + if isInn hd o = true then 1 else 0 := by
  unfold usedM
  rw [take_succ' hi, List.countP_append, List.countP_singleton]
theorem taken_inn {os : List Op} {i : Nat} {hd : Int} (hi : os[i]? = some (.inn hd)) (h : Int) (h0 : 0 ≤ hd) : takenM os h (i + 1) = (takenM os h i).set hd.toNat ((usedM (os.take i) hd : Int) + 1) := by
  unfold takenM
  refine List.ext_getElem (by simp) fun j h1 h2 => ?_
  rw [List.getElem_set]
  simp only [List.getElem_map, List.getElem_range]
  rw [used_step hi]
  by_cases e : hd.toNat = j
  · rw [if_pos e]
    have : ((j : Nat) : Int) = hd := by omega
    rw [this, if_pos (by simp [isInn])]
    omega
  · rw [if_neg e]
    rw [if_neg (by simp only [isInn, decide_eq_true_iff]; omega)]
    omega
theorem taken_other {os : List Op} {i : Nat} {o : Op} (hi : os[i]? = some o) (h : Int) (ho : ∀ hd, isInn hd o = false) : takenM os h (i + 1) = takenM os h i := by
  unfold takenM
  refine List.map_congr_left fun k _ => ?_
  rw [used_step hi, ho, if_neg (by simp)]
  rfl
theorem getD_at {xs : List Int} {a : Int} (h0 : 0 ≤ a) (h1 : a < xs.length) : atI (xs.map PyData.int) a = some (.int (xs.getD a.toNat 0)) := by
  rw [atI_pos h0, List.getElem?_map]
  have : a.toNat < xs.length := by omega
  simp only [List.getD, List.getElem?_eq_getElem this, Option.getD_some]
  rfl
theorem run_joined (p h f x y : Int) (o : Op) (hp : 0 < p) (hx : 0 ≤ x ∧ x < 1000) (ho : (∃ a b, o = .sum a b) ∨ (∃ a b, o = .less a b) ∨ (∃ a b, o = .mul a b)) :
    run S_joined [tbl p h f, .d o.D, .d (.int x), .d (.int y)] = .ok (.d (.int (match o with | .sum _ _ => (x + y) % p | .less _ _ => (x - y) % p | _ => x * y % p))) := by
  unfold S_joined B_joined
  rw [run_mk]
  rcases ho with ⟨a, b, rfl⟩ | ⟨a, b, rfl⟩ | ⟨a, b, rfl⟩ <;> unfold Op.D <;> simp (disch := first | rfl | assumption | omega | simp [*]) [ix3_0, ix3_1, ix3_2]
theorem run_plain (p h f : Int) (t : Tb p h f) (os : List Op) (ins : List (List Int)) (hl : os.length < 1000) (il : ins.length < 1000) (hr : ∀ r ∈ ins, r.length < 1000) :
    run S_plain [tbl p h f, .d (opsD os), .d (rowsP ins)] = if rightM p h os = true then (if inOk p h os ins = true then .ok (.d (.list ((plainM p ins os).map .int))) else .err "BadInputs") else .err "BadSteps" := by
  have tp := t.pos
  have t3 := t.h3
  have t7 := t.h7
  unfold S_plain B_plain
  rw [run_mk, vSeq_ap]
  have hc := run_check_steps p h f os hl
  by_cases hR : rightM p h os = true
  · rw [if_pos hR] at hc ⊢
    rw [drop_ok (xs := [tbl p h f, .d (opsD os)]) rfl hc, andThen_nx, vSeq_ap]
    have hi := run_check_inputs p h f os ins hl il hr
    by_cases hI : inOk p h os ins = true
    · rw [if_pos hI] at hi ⊢
      rw [drop_ok (xs := [tbl p h f, .d (opsD os), .d (rowsP ins)]) rfl hi, andThen_nx]
      have io := inOk_iff hI
      have hk : okL p h os = true := by unfold rightM at hR; rw [Bool.and_eq_true] at hR; exact hR.2
      have hil := io.len
      refine step_nx (e' := [.va (.f (tbl p h f)), .va (.f (.d (opsD os))), .va (.f (.d (rowsP ins))), .va (SV.dl ((takenM os h 0).map .int)), .no, .no]) ?_ ?_
      · have e2 : (List.replicate (h + 1).toNat [PyData.int 0]).flatten = (takenM os h 0).map .int := by
          have : takenM os h 0 = List.replicate (h + 1).toNat 0 := by
            unfold takenM
            refine List.ext_getElem (by simp) fun j h1 h2 => ?_
            simp [usedM]
          rw [this, List.map_replicate]
          generalize (h + 1).toNat = n
          induction n with
          | zero => rfl
          | succ n ih => rw [List.replicate_succ, List.flatten_cons, ih, List.replicate_succ]; rfl
        simp (disch := first | rfl | assumption | omega | simp [*]) [e2]
      refine step_nx (e' := [.va (.f (tbl p h f)), .va (.f (.d (opsD os))), .va (.f (.d (rowsP ins))), .va (SV.dl ((takenM os h 0).map .int)), .va (SV.dl ((plainI p ins os 0).map .int)), .no]) (by simp; rfl) ?_
      obtain ⟨I, hI⟩ : ∃ I : Nat → Env → Prop, ∀ i e, I i e ↔ ∃ s5, free s5 = true ∧ e = [.va (.f (tbl p h f)), .va (.f (.d (opsD os))), .va (.f (.d (rowsP ins))), .va (SV.dl ((takenM os h i).map .int)), .va (SV.dl ((plainI p ins os i).map .int)), s5] := ⟨_, fun _ _ => Iff.rfl⟩
      have hit : asL (opsD os) = .ok (os.map Op.D) := rfl
      refine step_wp (P := I os.length) ?_ fun e he => ?_
      · simp (disch := first | rfl | assumption | omega | simp [*]) [hit]
        refine wp_for I ?_ ?_ ?_
        · exact (hI _ _).mpr ⟨.no, rfl, rfl⟩
        · intro i x e hx h1
          obtain ⟨s5, h5, rfl⟩ := (hI _ _).mp h1
          rw [List.getElem?_map] at hx
          cases hi : os[i]? with
          | none => rw [hi] at hx; cases hx
          | some o =>
            rw [hi] at hx
            cases hx
            have il : i < os.length := (List.getElem?_eq_some_iff.mp hi).1
            have pl := plainI_length (p := p) (ins := ins) (os := os) i (by omega)
            have pr := plainI_rng (by omega) io hk i (by omega)
            have psucc := plainI_succ (p := p) (ins := ins) hi
            have oo := okL_at hk hi
            have gd : ∀ a : Nat, 0 ≤ (plainI p ins os i).getD a 0 ∧ (plainI p ins os i).getD a 0 < p := fun a => by
              simp only [List.getD]
              cases z : (plainI p ins os i)[a]? with
              | none => exact ⟨by simp, by simp; omega⟩
              | some c => exact pr.nth z
            rw [gN_ap (t := s5) rfl h5, oW_some]
            have key : ∀ tk, tk = takenM os h (i + 1) → I (i + 1) [.va (.f (tbl p h f)), .va (.f (.d (opsD os))), .va (.f (.d (rowsP ins))), .va (SV.dl (tk.map .int)), .va (SV.dl ((plainI p ins os i).map .int ++ [.int (valM p ins (os.take i) (plainI p ins os i) o)])), .va (.f (.d o.D))] := fun tk e => (hI _ _).mpr ⟨.va (.f (.d o.D)), rfl, by rw [e, psucc, List.map_append]; rfl⟩
            have fl : ((plainI p ins os i).map PyData.int).length < 16777216 := by rw [List.length_map, pl]; omega
            cases o with
            | inn hd =>
              obtain ⟨h1, h2, r, c, e1, e2, rc, e3⟩ := in_at io hk hi
              have k2 := key ((takenM os h i).set hd.toNat ((usedM (os.take i) hd : Int) + 1)) (taken_inn hi h (by omega)).symm
              have tl : ((takenM os h i).map PyData.int).length = (h + 1).toNat := by unfold takenM; simp
              have a1 : atI (ins.map fun r => PyData.list (r.map .int)) (hd - 1) = some (.list (r.map .int)) := by
                rw [atI_pos (by omega), List.getElem?_map, e1]; rfl
              have a2 : atI ((takenM os h i).map PyData.int) hd = some (.int (usedM (os.take i) hd)) := by
                rw [atI_pos (by omega), List.getElem?_map]
                unfold takenM
                rw [List.getElem?_map, List.getElem?_range (by omega)]
                show some (PyData.int (usedM (os.take i) ((hd.toNat : Nat) : Int))) = _
                rw [show ((hd.toNat : Nat) : Int) = hd by omega]
              have a3 : atI (r.map PyData.int) (usedM (os.take i) hd : Int) = some (.int c) := by
                rw [atI_pos (by omega), List.getElem?_map, Int.toNat_natCast, e2]; rfl
              have hpl := plS_dl 3 [] ((takenM os h i).map PyData.int) hd _ a2
              have hv : valM p ins (os.take i) (plainI p ins os i) (.inn hd) = c := e3
              rw [hv] at k2
              have sl : hd < (((takenM os h i).map PyData.int).length : Int) := by rw [tl]; omega
              generalize usedM (os.take i) hd = u at *
              generalize takenM os h i = tk at *
              generalize plainI p ins os i = fd at *
              unfold Op.D
              unfold rowsP at k2 ⊢
              simp (disch := first | rfl | assumption | omega | simp [*]) [ix2_0, ix2_1, a1, a3, hpl]
              rw [← List.map_set]
              exact k2
            | fix n =>
              have k2 := key _ (taken_other hi h (fun _ => rfl)).symm
              have hv : valM p ins (os.take i) (plainI p ins os i) (.fix n) = n := rfl
              rw [hv] at k2
              generalize takenM os h i = tk at *
              generalize plainI p ins os i = fd at *
              unfold Op.D
              simp (disch := first | rfl | assumption | omega | simp [*]) [ix2_0, ix2_1]
              exact k2
            | byy a n =>
              have k2 := key _ (taken_other hi h (fun _ => rfl)).symm
              simp only [Op.ok, Bool.and_eq_true, decide_eq_true_iff] at oo
              have ha := getD_at (xs := plainI p ins os i) (a := a) oo.1.1 (by rw [pl]; exact oo.1.2)
              have hpl := plS_dl 4 [] ((plainI p ins os i).map PyData.int) a _ ha
              have gx := gd a.toNat
              have hv : valM p ins (os.take i) (plainI p ins os i) (.byy a n) = (plainI p ins os i).getD a.toNat 0 * n % p := rfl
              rw [hv] at k2
              generalize (plainI p ins os i).getD a.toNat 0 = x at *
              generalize takenM os h i = tk at *
              generalize plainI p ins os i = fd at *
              unfold Op.D
              simp (disch := first | rfl | assumption | omega | simp [*]) [ix3_0, ix3_1, ix3_2, hpl]
              exact k2
            | anew a =>
              have k2 := key _ (taken_other hi h (fun _ => rfl)).symm
              simp only [Op.ok, Bool.and_eq_true, decide_eq_true_iff] at oo
              have ha := getD_at (xs := plainI p ins os i) (a := a) oo.1 (by rw [pl]; exact oo.2)
              have hpl := plS_dl 4 [] ((plainI p ins os i).map PyData.int) a _ ha
              have hv : valM p ins (os.take i) (plainI p ins os i) (.anew a) = (plainI p ins os i).getD a.toNat 0 := rfl
              rw [hv] at k2
              generalize (plainI p ins os i).getD a.toNat 0 = x at *
              generalize takenM os h i = tk at *
              generalize plainI p ins os i = fd at *
              unfold Op.D
              simp (disch := first | rfl | assumption | omega | simp [*]) [ix2_0, ix2_1, hpl, in_w2]
              exact k2
            | opn a =>
              have k2 := key _ (taken_other hi h (fun _ => rfl)).symm
              simp only [Op.ok, Bool.and_eq_true, decide_eq_true_iff] at oo
              have ha := getD_at (xs := plainI p ins os i) (a := a) oo.1 (by rw [pl]; exact oo.2)
              have hpl := plS_dl 4 [] ((plainI p ins os i).map PyData.int) a _ ha
              have hv : valM p ins (os.take i) (plainI p ins os i) (.opn a) = (plainI p ins os i).getD a.toNat 0 := rfl
              rw [hv] at k2
              generalize (plainI p ins os i).getD a.toNat 0 = x at *
              generalize takenM os h i = tk at *
              generalize plainI p ins os i = fd at *
              unfold Op.D
              simp (disch := first | rfl | assumption | omega | simp [*]) [ix2_0, ix2_1, hpl, in_w2]
              exact k2
            | sum a b =>
              have k2 := key _ (taken_other hi h (fun _ => rfl)).symm
              simp only [Op.ok, Bool.and_eq_true, decide_eq_true_iff] at oo
              have ha := getD_at (xs := plainI p ins os i) (a := a) oo.1.1 (by rw [pl]; exact oo.1.2)
              have hb := getD_at (xs := plainI p ins os i) (a := b) oo.2.1 (by rw [pl]; exact oo.2.2)
              have hpl := plS_dl 4 [] ((plainI p ins os i).map PyData.int) a _ ha
              have hpl2 := plS_dl 4 [] ((plainI p ins os i).map PyData.int) b _ hb
              have gx := gd a.toNat
              have hv : valM p ins (os.take i) (plainI p ins os i) (.sum a b) = ((plainI p ins os i).getD a.toNat 0 + (plainI p ins os i).getD b.toNat 0) % p := rfl
              rw [hv] at k2
              generalize (plainI p ins os i).getD a.toNat 0 = x at *
              generalize (plainI p ins os i).getD b.toNat 0 = y at *
              have hj := runO_flat rfl (run_joined p h f x y (.sum a b) (by omega) (by omega) (.inl ⟨a, b, rfl⟩))
              generalize takenM os h i = tk at *
              generalize plainI p ins os i = fd at *
              unfold Op.D at hj ⊢
              simp (disch := first | rfl | assumption | omega | simp [*]) [ix3_0, ix3_1, ix3_2, hpl, hpl2, in_w2, vCall_raw, hj]
              exact k2
            | less a b =>
              have k2 := key _ (taken_other hi h (fun _ => rfl)).symm
              simp only [Op.ok, Bool.and_eq_true, decide_eq_true_iff] at oo
              have ha := getD_at (xs := plainI p ins os i) (a := a) oo.1.1 (by rw [pl]; exact oo.1.2)
              have hb := getD_at (xs := plainI p ins os i) (a := b) oo.2.1 (by rw [pl]; exact oo.2.2)
              have hpl := plS_dl 4 [] ((plainI p ins os i).map PyData.int) a _ ha
              have hpl2 := plS_dl 4 [] ((plainI p ins os i).map PyData.int) b _ hb
              have gx := gd a.toNat
              have hv : valM p ins (os.take i) (plainI p ins os i) (.less a b) = ((plainI p ins os i).getD a.toNat 0 - (plainI p ins os i).getD b.toNat 0) % p := rfl
              rw [hv] at k2
              generalize (plainI p ins os i).getD a.toNat 0 = x at *
              generalize (plainI p ins os i).getD b.toNat 0 = y at *
              have hj := runO_flat rfl (run_joined p h f x y (.less a b) (by omega) (by omega) (.inr (.inl ⟨a, b, rfl⟩)))
              generalize takenM os h i = tk at *
              generalize plainI p ins os i = fd at *
              unfold Op.D at hj ⊢
              simp (disch := first | rfl | assumption | omega | simp [*]) [ix3_0, ix3_1, ix3_2, hpl, hpl2, in_w2, vCall_raw, hj]
              exact k2
            | mul a b =>
              have k2 := key _ (taken_other hi h (fun _ => rfl)).symm
              simp only [Op.ok, Bool.and_eq_true, decide_eq_true_iff] at oo
              have ha := getD_at (xs := plainI p ins os i) (a := a) oo.1.1 (by rw [pl]; exact oo.1.2)
              have hb := getD_at (xs := plainI p ins os i) (a := b) oo.2.1 (by rw [pl]; exact oo.2.2)
              have hpl := plS_dl 4 [] ((plainI p ins os i).map PyData.int) a _ ha
              have hpl2 := plS_dl 4 [] ((plainI p ins os i).map PyData.int) b _ hb
              have gx := gd a.toNat
              have hv : valM p ins (os.take i) (plainI p ins os i) (.mul a b) = (plainI p ins os i).getD a.toNat 0 * (plainI p ins os i).getD b.toNat 0 % p := rfl
              rw [hv] at k2
              generalize (plainI p ins os i).getD a.toNat 0 = x at *
              generalize (plainI p ins os i).getD b.toNat 0 = y at *
              have hj := runO_flat rfl (run_joined p h f x y (.mul a b) (by omega) (by omega) (.inr (.inr ⟨a, b, rfl⟩)))
              generalize takenM os h i = tk at *
              generalize plainI p ins os i = fd at *
              unfold Op.D at hj ⊢
              simp (disch := first | rfl | assumption | omega | simp [*]) [ix3_0, ix3_1, ix3_2, hpl, hpl2, in_w2, vCall_raw, hj]
              exact k2
        · intro e h1; rwa [List.length_map] at h1
      · obtain ⟨s5, h5, rfl⟩ := (hI _ _).mp he
        rw [vRetV_va (s := SV.dl ((plainM p ins os).map .int)) 4 _ rfl]
        simp
    · rw [if_neg hI] at hi ⊢
      rw [drop_err (xs := [tbl p h f, .d (opsD os), .d (rowsP ins)]) rfl hi]
      rfl
  · rw [if_neg hR] at hc ⊢
    rw [drop_err (xs := [tbl p h f, .d (opsD os)]) rfl hc]
    rfl
end VL

set_option Elab.async false
set_option linter.all false
set_option maxRecDepth 100000
set_option maxHeartbeats 4000000
namespace VL
open PySem PySem.Spec PyProof.Rows L2

/-! ### the law's own plain numbers -/
def restM (os : List Op) (ins : List (List Int)) (i : Nat) : List (List Int) := ins.mapIdx fun k r => r.drop (usedM (os.take i) ((k : Int) + 1))
theorem restM_length (os : List Op) (ins : List (List Int)) (i : Nat) : (restM os ins i).length = ins.length := by unfold restM; simp
theorem rest_other {os : List Op} {i : Nat} {o : Op} (hi : os[i]? = some o) (ins : List (List Int)) (ho : ∀ hd, isInn hd o = false) : restM os ins (i + 1) = restM os ins i := by
  unfold restM
  congr 1
  funext k r
  rw [used_step hi, ho, if_neg (by simp), Nat.add_zero]
theorem rest_inn {os : List Op} {i : Nat} {hd : Int} (hi : os[i]? = some (.inn hd)) (ins : List (List Int)) (h0 : 1 ≤ hd) {r : List Int} (hr : ins[(hd - 1).toNat]? = some r) : restM os ins (i + 1) = (restM os ins i).set (hd - 1).toNat (r.drop (usedM (os.take i) hd + 1)) := by
  obtain ⟨kl, er⟩ := List.getElem?_eq_some_iff.mp hr
  unfold restM
  refine List.ext_getElem (by simp) fun j h1 h2 => ?_
  rw [List.getElem_set]
  simp only [List.getElem_mapIdx]
  rw [used_step hi]
  by_cases e : (hd - 1).toNat = j
  · rw [if_pos e]
    subst e
    rw [show (((hd - 1).toNat : Nat) : Int) + 1 = hd by omega, if_pos (by simp [isInn]), er]
  · rw [if_neg e, if_neg (by simp only [isInn, decide_eq_true_iff]; omega), Nat.add_zero]
theorem rest_at {os : List Op} {i : Nat} {hd : Int} (ins : List (List Int)) (h0 : 1 ≤ hd) {r : List Int} {c : Int} (hr : ins[(hd - 1).toNat]? = some r) (hc : r[usedM (os.take i) hd]? = some c) : (restM os ins i)[(hd - 1).toNat]? = some (c :: r.drop (usedM (os.take i) hd + 1)) := by
  obtain ⟨kl, er⟩ := List.getElem?_eq_some_iff.mp hr
  obtain ⟨cl, ec⟩ := List.getElem?_eq_some_iff.mp hc
  unfold restM
  rw [List.getElem?_mapIdx, hr]
  show some (r.drop (usedM (os.take i) ((((hd - 1).toNat : Nat) : Int) + 1))) = _
  rw [show (((hd - 1).toNat : Nat) : Int) + 1 = hd by omega, List.drop_eq_getElem_cons cl, ec]
theorem rows_tree (ins : List (List Int)) : SV.own (ins.map fun r => SV.dl (r.map .int)) = SV.dll (rowsD ins) := by
  unfold SV.dll rowsD
  rw [List.map_map]
  rfl
theorem lists_comp {it : IT} {e : Env} {j : Nat} (ins : List (List Int)) (hi : it e = .ok (ins.map fun r => .list (r.map .int))) (hl : ins.length < 1000) (hj : j < e.length) :
    vComp it (gN j) vYes (v1 listP (vVarD j)) [j] e = .ok (SV.dll (rowsD ins)) := by
  rw [comp_lstT ins (fun r => .list (r.map .int)) (fun _ => true) (fun r => SV.dl (r.map .int)) hi (by omega) (fun r _ => ⟨_, gN_ap (t := .no) (by simp [hj]) rfl, rfl, fun _ => by
    have z2 : ((e.set j .no).set j (.va (.f (.d (.list (r.map PyData.int))))))[j]? = some (.va (.f (.d (.list (r.map .int))))) := List.getElem?_set_self (by rw [List.length_set]; exact hj)
    simp only [wipeE_cons, wipeE_nil]
    rw [v1_ap, vVarD_ap, z2]
    simp⟩)]
  rw [List.filter_eq_self.mpr (fun _ _ => rfl), rows_tree]
theorem run_lplain (p h f : Int) (t : Tb p h f) (os : List Op) (ins : List (List Int)) (hl : os.length < 1000) (hk : okL p h os = true) (io : InOk p h os ins) :
    run S__law_plain [.d (.int p), .d (opsD os), .d (rowsP ins)] = .ok (.d (.list ((plainM p ins os).map .int))) := by
  have tp := t.pos
  have t3 := t.h3
  have t7 := t.h7
  have hil := io.len
  unfold S__law_plain B__law_plain
  rw [run_mk]
  have r0 : restM os ins 0 = ins := by
    unfold restM
    refine List.ext_getElem (by simp) fun j h1 h2 => ?_
    simp [usedM]
  refine step_nx (e' := [.va (.f (.d (.int p))), .va (.f (.d (opsD os))), .va (.f (.d (rowsP ins))), .va (SV.dll (rowsD (restM os ins 0))), .no, .no, .no]) ?_ ?_
  · rw [vSetO_ap, lists_comp ins (by simp [rowsP]) (by omega) (by simp), r0]
    simp
  refine step_nx (e' := [.va (.f (.d (.int p))), .va (.f (.d (opsD os))), .va (.f (.d (rowsP ins))), .va (SV.dll (rowsD (restM os ins 0))), .va (SV.dl ((plainI p ins os 0).map .int)), .no, .no]) (by simp; rfl) ?_
  obtain ⟨I, hI⟩ : ∃ I : Nat → Env → Prop, ∀ i e, I i e ↔ ∃ s5, free s5 = true ∧ e = [.va (.f (.d (.int p))), .va (.f (.d (opsD os))), .va (.f (.d (rowsP ins))), .va (SV.dll (rowsD (restM os ins i))), .va (SV.dl ((plainI p ins os i).map .int)), s5, .no] := ⟨_, fun _ _ => Iff.rfl⟩
  have hit : asL (opsD os) = .ok (os.map Op.D) := rfl
  refine step_wp (P := I os.length) ?_ fun e he => ?_
  · simp (disch := first | rfl | assumption | omega | simp [*]) [hit]
    refine wp_for I ?_ ?_ ?_
    · exact (hI _ _).mpr ⟨.no, rfl, rfl⟩
    · intro i x e hx h1
      obtain ⟨s5, h5, rfl⟩ := (hI _ _).mp h1
      rw [List.getElem?_map] at hx
      cases hi : os[i]? with
      | none => rw [hi] at hx; cases hx
      | some o =>
        rw [hi] at hx
        cases hx
        have il : i < os.length := (List.getElem?_eq_some_iff.mp hi).1
        have pl := plainI_length (p := p) (ins := ins) (os := os) i (by omega)
        have pr := plainI_rng (by omega) io hk i (by omega)
        have psucc := plainI_succ (p := p) (ins := ins) hi
        have oo := okL_at hk hi
        have gd : ∀ a : Nat, 0 ≤ (plainI p ins os i).getD a 0 ∧ (plainI p ins os i).getD a 0 < p := fun a => by
          simp only [List.getD]
          cases z : (plainI p ins os i)[a]? with
          | none => exact ⟨by simp, by simp; omega⟩
          | some c => exact pr.nth z
        rw [gN_ap (t := s5) rfl h5, oW_some]
        have key : ∀ tk, tk = restM os ins (i + 1) → I (i + 1) [.va (.f (.d (.int p))), .va (.f (.d (opsD os))), .va (.f (.d (rowsP ins))), .va (SV.dll (rowsD tk)), .va (SV.dl ((plainI p ins os i).map .int ++ [.int (valM p ins (os.take i) (plainI p ins os i) o)])), .va (.f (.d o.D)), .no] := fun tk e => (hI _ _).mpr ⟨.va (.f (.d o.D)), rfl, by rw [e, psucc, List.map_append]; rfl⟩
        have fl : ((plainI p ins os i).map PyData.int).length < 16777216 := by rw [List.length_map, pl]; omega
        cases o with
        | inn hd =>
          obtain ⟨h1, h2, r, c, e1, e2, rc, e3⟩ := in_at io hk hi
          have ra := rest_at ins h1 e1 e2
          have k2 := key ((restM os ins i).set (hd - 1).toNat (r.drop (usedM (os.take i) hd + 1))) (rest_inn hi ins h1 e1).symm
          have a1 : atI (rowsD (restM os ins i)) (hd - 1) = some (PyData.int c :: (r.drop (usedM (os.take i) hd + 1)).map .int) := by
            rw [atI_pos (by omega)]
            unfold rowsD
            rw [List.getElem?_map, ra]
            rfl
          have hpl := plS_dll 3 [] (rowsD (restM os ins i)) (hd - 1) _ a1
          have hv : valM p ins (os.take i) (plainI p ins os i) (.inn hd) = c := e3
          rw [hv] at k2
          have hset : rowsD ((restM os ins i).set (hd - 1).toNat (r.drop (usedM (os.take i) hd + 1))) = (rowsD (restM os ins i)).set (hd - 1).toNat ((r.drop (usedM (os.take i) hd + 1)).map .int) := by unfold rowsD; rw [List.map_set]
          rw [hset] at k2
          generalize (r.drop (usedM (os.take i) hd + 1)).map PyData.int = tl at *
          generalize rowsD (restM os ins i) = qs at *
          generalize hfd : plainI p ins os i = fd at *
          have hpop := pop_dll (e := [.va (.f (.d (.int p))), .va (.f (.d (opsD os))), .va (.f (.d (rowsP ins))), .va (SV.dll qs), .va (SV.dl (fd.map .int)), .va (.f (.d (Op.inn hd).D)), .no]) (i := 3) rfl (by omega) a1
          have hap := appE_dl (e := [.va (.f (.d (.int p))), .va (.f (.d (opsD os))), .va (.f (.d (rowsP ins))), .va (SV.dll (qs.set (hd - 1).toNat tl)), .va (SV.dl (fd.map .int)), .va (.f (.d (Op.inn hd).D)), .no]) (i := 4) (u := SV.dl (fd.map .int)) (p := .int c) rfl fl
          unfold Op.D at hpop hap k2 ⊢
          simp (disch := first | rfl | assumption | omega | simp [*]) at hpop hap
          simp (disch := first | rfl | assumption | omega | simp [*]) [ix2_0, ix2_1, hpl, hpop, hap]
          rw [show (hd - 1).toNat = hd.toNat - 1 by omega] at k2
          exact k2
        | fix n =>
          have k2 := key _ (rest_other hi ins (fun _ => rfl)).symm
          have hv : valM p ins (os.take i) (plainI p ins os i) (.fix n) = n := rfl
          rw [hv] at k2
          generalize restM os ins i = tk at *
          generalize plainI p ins os i = fd at *
          unfold Op.D
          simp (disch := first | rfl | assumption | omega | simp [*]) [ix2_0, ix2_1]
          exact k2
        | byy a n =>
          have k2 := key _ (rest_other hi ins (fun _ => rfl)).symm
          simp only [Op.ok, Bool.and_eq_true, decide_eq_true_iff] at oo
          have ha := getD_at (xs := plainI p ins os i) (a := a) oo.1.1 (by rw [pl]; exact oo.1.2)
          have hpl := plS_dl 4 [] ((plainI p ins os i).map PyData.int) a _ ha
          have gx := gd a.toNat
          have hv : valM p ins (os.take i) (plainI p ins os i) (.byy a n) = (plainI p ins os i).getD a.toNat 0 * n % p := rfl
          rw [hv] at k2
          generalize (plainI p ins os i).getD a.toNat 0 = x at *
          generalize restM os ins i = tk at *
          generalize plainI p ins os i = fd at *
          unfold Op.D
          simp (disch := first | rfl | assumption | omega | simp [*]) [ix3_0, ix3_1, ix3_2, hpl]
          exact k2
        | anew a =>
          have k2 := key _ (rest_other hi ins (fun _ => rfl)).symm
          simp only [Op.ok, Bool.and_eq_true, decide_eq_true_iff] at oo
          have ha := getD_at (xs := plainI p ins os i) (a := a) oo.1 (by rw [pl]; exact oo.2)
          have hpl := plS_dl 4 [] ((plainI p ins os i).map PyData.int) a _ ha
          have hv : valM p ins (os.take i) (plainI p ins os i) (.anew a) = (plainI p ins os i).getD a.toNat 0 := rfl
          rw [hv] at k2
          generalize (plainI p ins os i).getD a.toNat 0 = x at *
          generalize restM os ins i = tk at *
          generalize plainI p ins os i = fd at *
          unfold Op.D
          simp (disch := first | rfl | assumption | omega | simp [*]) [ix2_0, ix2_1, hpl, in_w2]
          exact k2
        | opn a =>
          have k2 := key _ (rest_other hi ins (fun _ => rfl)).symm
          simp only [Op.ok, Bool.and_eq_true, decide_eq_true_iff] at oo
          have ha := getD_at (xs := plainI p ins os i) (a := a) oo.1 (by rw [pl]; exact oo.2)
          have hpl := plS_dl 4 [] ((plainI p ins os i).map PyData.int) a _ ha
          have hv : valM p ins (os.take i) (plainI p ins os i) (.opn a) = (plainI p ins os i).getD a.toNat 0 := rfl
          rw [hv] at k2
          generalize (plainI p ins os i).getD a.toNat 0 = x at *
          generalize restM os ins i = tk at *
          generalize plainI p ins os i = fd at *
          unfold Op.D
          simp (disch := first | rfl | assumption | omega | simp [*]) [ix2_0, ix2_1, hpl, in_w2]
          exact k2
        | sum a b =>
          have k2 := key _ (rest_other hi ins (fun _ => rfl)).symm
          simp only [Op.ok, Bool.and_eq_true, decide_eq_true_iff] at oo
          have ha := getD_at (xs := plainI p ins os i) (a := a) oo.1.1 (by rw [pl]; exact oo.1.2)
          have hb := getD_at (xs := plainI p ins os i) (a := b) oo.2.1 (by rw [pl]; exact oo.2.2)
          have hpl := plS_dl 4 [] ((plainI p ins os i).map PyData.int) a _ ha
          have hpl2 := plS_dl 4 [] ((plainI p ins os i).map PyData.int) b _ hb
          have gx := gd a.toNat
          have hv : valM p ins (os.take i) (plainI p ins os i) (.sum a b) = ((plainI p ins os i).getD a.toNat 0 + (plainI p ins os i).getD b.toNat 0) % p := rfl
          rw [hv] at k2
          generalize (plainI p ins os i).getD a.toNat 0 = x at *
          generalize (plainI p ins os i).getD b.toNat 0 = y at *
          generalize restM os ins i = tk at *
          generalize plainI p ins os i = fd at *
          unfold Op.D
          simp (disch := first | rfl | assumption | omega | simp [*]) [ix3_0, ix3_1, ix3_2, hpl, hpl2, in_w2]
          exact k2
        | less a b =>
          have k2 := key _ (rest_other hi ins (fun _ => rfl)).symm
          simp only [Op.ok, Bool.and_eq_true, decide_eq_true_iff] at oo
          have ha := getD_at (xs := plainI p ins os i) (a := a) oo.1.1 (by rw [pl]; exact oo.1.2)
          have hb := getD_at (xs := plainI p ins os i) (a := b) oo.2.1 (by rw [pl]; exact oo.2.2)
          have hpl := plS_dl 4 [] ((plainI p ins os i).map PyData.int) a _ ha
          have hpl2 := plS_dl 4 [] ((plainI p ins os i).map PyData.int) b _ hb
          have gx := gd a.toNat
          have hv : valM p ins (os.take i) (plainI p ins os i) (.less a b) = ((plainI p ins os i).getD a.toNat 0 - (plainI p ins os i).getD b.toNat 0) % p := rfl
          rw [hv] at k2
          generalize (plainI p ins os i).getD a.toNat 0 = x at *
          generalize (plainI p ins os i).getD b.toNat 0 = y at *
          generalize restM os ins i = tk at *
          generalize plainI p ins os i = fd at *
          unfold Op.D
          simp (disch := first | rfl | assumption | omega | simp [*]) [ix3_0, ix3_1, ix3_2, hpl, hpl2, in_w2]
          exact k2
        | mul a b =>
          have k2 := key _ (rest_other hi ins (fun _ => rfl)).symm
          simp only [Op.ok, Bool.and_eq_true, decide_eq_true_iff] at oo
          have ha := getD_at (xs := plainI p ins os i) (a := a) oo.1.1 (by rw [pl]; exact oo.1.2)
          have hb := getD_at (xs := plainI p ins os i) (a := b) oo.2.1 (by rw [pl]; exact oo.2.2)
          have hpl := plS_dl 4 [] ((plainI p ins os i).map PyData.int) a _ ha
          have hpl2 := plS_dl 4 [] ((plainI p ins os i).map PyData.int) b _ hb
          have gx := gd a.toNat
          have hv : valM p ins (os.take i) (plainI p ins os i) (.mul a b) = (plainI p ins os i).getD a.toNat 0 * (plainI p ins os i).getD b.toNat 0 % p := rfl
          rw [hv] at k2
          generalize (plainI p ins os i).getD a.toNat 0 = x at *
          generalize (plainI p ins os i).getD b.toNat 0 = y at *
          generalize restM os ins i = tk at *
          generalize plainI p ins os i = fd at *
          unfold Op.D
          simp (disch := first | rfl | assumption | omega | simp [*]) [ix3_0, ix3_1, ix3_2, hpl, hpl2, in_w2]
          exact k2
    · intro e h1; rwa [List.length_map] at h1
  · obtain ⟨s5, h5, rfl⟩ := (hI _ _).mp he
    rw [vRetV_va (s := SV.dl ((plainM p ins os).map .int)) 4 _ rfl]
    simp
/-! ### inputs drawn -/
def insRow (c : Int) (os : List Op) (p hd : Int) : List Int := (List.range (usedM os hd + mixM c (60 + hd) 2).toNat).map fun (j : Nat) => mixM c (70 + 9 * hd + (j : Int)) p
def insBy (c : Int) (os : List Op) (p h : Int) : List (List Int) := (List.range h.toNat).map fun (k : Nat) => insRow c os p (1 + (k : Int))
theorem insBy_ok (c : Int) (os : List Op) (p h : Int) (hp : 0 < p) (hh : 0 ≤ h) : InOk p h os (insBy c os p h) := by
  refine ⟨by unfold insBy; simp; omega, fun k r hr => ?_⟩
  unfold insBy at hr
  rw [List.getElem?_map] at hr
  cases z : (List.range h.toNat)[k]? with
  | none => rw [z] at hr; cases hr
  | some k' =>
    rw [z] at hr
    cases hr
    have e : k' = k := by
      obtain ⟨kl, e⟩ := List.getElem?_eq_some_iff.mp z
      simpa using e.symm
    subst e
    have m := mixM_lt c (60 + (1 + (k' : Int))) (show (0 : Int) < 2 by omega)
    refine ⟨fun x mx => ?_, ?_⟩
    · unfold insRow at mx
      obtain ⟨j, _, rfl⟩ := List.mem_map.mp mx
      exact mixM_lt _ _ hp
    · unfold insRow
      rw [List.length_map, List.length_range, show (k' : Int) + 1 = 1 + (k' : Int) by omega]
      omega
theorem insRow_len (c : Int) (os : List Op) (p hd : Int) : (insRow c os p hd).length ≤ os.length + 1 := by
  unfold insRow
  rw [List.length_map, List.length_range]
  have m := mixM_lt c (60 + hd) (show (0 : Int) < 2 by omega)
  have : usedM os hd ≤ os.length := List.countP_le_length
  omega
theorem run_inputs_by (c p h f : Int) (os : List Op) (hl : os.length < 900) (hp : 0 < p) (hh : 0 ≤ h ∧ h < 100) :
    run S__law_inputs_by [.d (.int c), .d (opsD os), tbl p h f] = .ok (.d (rowsP (insBy c os p h))) := by
  have key : runO S__law_inputs_by [.d (.int c), .d (opsD os), tbl p h f] = .ok (SV.dll (rowsD (insBy c os p h))) := by
    unfold S__law_inputs_by B__law_inputs_by
    rw [runO_mk]
    obtain ⟨I, hI⟩ : ∃ I : Nat → Env → Prop, ∀ j e, I j e ↔ ∃ s4 s5, (free s4 = true ∧ free s5 = true) ∧ e = [.va (.f (.d (.int c))), .va (.f (.d (opsD os))), .va (.f (tbl p h f)), .va (SV.dll (rowsD ((List.range j).map fun (k : Nat) => insRow c os p (1 + (k : Int))))), s4, s5, .no] := ⟨_, fun _ _ => Iff.rfl⟩
    simp (disch := first | rfl | assumption | omega | simp [*])
    refine finO_wp (wp_for I ?_ ?_ ?_)
    · exact (hI _ _).mpr ⟨.no, .no, ⟨rfl, rfl⟩, rfl⟩
    · intro j x e hx h1
      obtain ⟨s4, s5, ⟨h4, h5⟩, rfl⟩ := (hI _ _).mp h1
      obtain ⟨hj, rfl⟩ := rng_get hx
      have hu := run_lused os (1 + (j : Int)) (by omega)
      have hm := run_mix c (60 + (1 + (j : Int))) 2 (by omega)
      have m := mixM_lt c (60 + (1 + (j : Int))) (show (0 : Int) < 2 by omega)
      have ul : usedM os (1 + (j : Int)) ≤ os.length := List.countP_le_length
      rw [gN_ap (t := s4) rfl h4, oW_some]
      rw [show (List.set [.va (.f (.d (.int c))), .va (.f (.d (opsD os))), .va (.f (tbl p h f)), .va (SV.dll (rowsD ((List.range j).map fun (k : Nat) => insRow c os p (1 + (k : Int))))), s4, s5, .no] 4 (.va (.f (.d (.int (1 + (j : Int))))))) = [.va (.f (.d (.int c))), .va (.f (.d (opsD os))), .va (.f (tbl p h f)), .va (SV.dll (rowsD ((List.range j).map fun (k : Nat) => insRow c os p (1 + (k : Int))))), .va (.f (.d (.int (1 + (j : Int))))), s5, .no] from rfl]
      rw [vSeq_ap]
      have e1 : vSet 5 (frO (v2 addV (frD (vCall S__law_used (aC (vVar 1) (aC (vVar 4) aN)))) (frD (vCall S__law_mix (aC (vVar 0) (aC (frO (v2 addV (toD (vC (.int 60))) (vVarD 4))) (aC (vC (.int 2)) aN)))))))
          [.va (.f (.d (.int c))), .va (.f (.d (opsD os))), .va (.f (tbl p h f)), .va (SV.dll (rowsD ((List.range j).map fun (k : Nat) => insRow c os p (1 + (k : Int))))), .va (.f (.d (.int (1 + (j : Int))))), s5, .no]
          = .nx [.va (.f (.d (.int c))), .va (.f (.d (opsD os))), .va (.f (tbl p h f)), .va (SV.dll (rowsD ((List.range j).map fun (k : Nat) => insRow c os p (1 + (k : Int))))), .va (.f (.d (.int (1 + (j : Int))))), .va (.f (.d (.int ((usedM os (1 + (j : Int)) : Int) + mixM c (60 + (1 + (j : Int))) 2)))), .no] := by
        simp (disch := first | rfl | assumption | omega | simp [*]) [hu, hm]
      rw [e1, andThen_nx, vEx_ap, vApp_ap]
      have e2 : (plN 3 [.va (.f (.d (.int c))), .va (.f (.d (opsD os))), .va (.f (tbl p h f)), .va (SV.dll (rowsD ((List.range j).map fun (k : Nat) => insRow c os p (1 + (k : Int))))), .va (.f (.d (.int (1 + (j : Int))))), .va (.f (.d (.int ((usedM os (1 + (j : Int)) : Int) + mixM c (60 + (1 + (j : Int))) 2)))), .no]).bind lstP = .ok (3, [], SV.dll (rowsD ((List.range j).map fun (k : Nat) => insRow c os p (1 + (k : Int))))) := by simp
      rw [e2, oR_ok]
      have e3 : vComp (v1 rng1 (vVarD 5)) (gN 6) vYes (vCall S__law_mix (aC (vVar 0) (aC (frO (v2 addV (frD (v2 addV (toD (vC (.int 70))) (frD (v2 mulV (toD (vC (.int 9))) (vVarD 4))))) (vVarD 6))) (aC (vFld "Table" "prime" (vVar 2)) aN)))) [6]
          [.va (.f (.d (.int c))), .va (.f (.d (opsD os))), .va (.f (tbl p h f)), .va (SV.dll (rowsD ((List.range j).map fun (k : Nat) => insRow c os p (1 + (k : Int))))), .va (.f (.d (.int (1 + (j : Int))))), .va (.f (.d (.int ((usedM os (1 + (j : Int)) : Int) + mixM c (60 + (1 + (j : Int))) 2)))), .no]
          = .ok (SV.dl ((insRow c os p (1 + (j : Int))).map .int)) := by
        rw [comp_lstT (List.range (usedM os (1 + (j : Int)) + mixM c (60 + (1 + (j : Int))) 2).toNat) (fun (k : Nat) => .int (k : Int)) (fun _ => true) (fun (k : Nat) => .f (.d (.int (mixM c (70 + 9 * (1 + (j : Int)) + (k : Int)) p))))]
        · rw [List.filter_eq_self.mpr (fun _ _ => rfl), map_dl]
          unfold insRow
          rw [List.map_map]
          rfl
        · simp (disch := first | rfl | assumption | omega | simp [*])
          unfold rngP
          simp
        · rw [List.length_range]; omega
        · intro k _
          refine ⟨_, gN_ap (t := .no) rfl rfl, rfl, fun _ => elt_leaf rfl ?_⟩
          have := run_mix c (70 + 9 * (1 + (j : Int)) + (k : Int)) p hp
          simp (disch := first | rfl | assumption | omega | simp [*]) [this]
      rw [e3, oR_ok]
      have ll : (rowsD ((List.range j).map fun (k : Nat) => insRow c os p (1 + (k : Int)))).length < 16777216 := by rw [rowsD_length]; simp; omega
      have e4 := app_dll (e := [.va (.f (.d (.int c))), .va (.f (.d (opsD os))), .va (.f (tbl p h f)), .va (SV.dll (rowsD ((List.range j).map fun (k : Nat) => insRow c os p (1 + (k : Int))))), .va (.f (.d (.int (1 + (j : Int))))), .va (.f (.d (.int ((usedM os (1 + (j : Int)) : Int) + mixM c (60 + (1 + (j : Int))) 2)))), .no]) (i := 3) (p := (insRow c os p (1 + (j : Int))).map .int) rfl ll
      rw [e4, ofO_ok]
      refine (hI _ _).mpr ⟨.va (.f (.d (.int (1 + (j : Int))))), .va (.f (.d (.int ((usedM os (1 + (j : Int)) : Int) + mixM c (60 + (1 + (j : Int))) 2)))), ⟨rfl, rfl⟩, ?_⟩
      rw [List.range_succ, List.map_append, rowsD_append]
      rfl
    · intro e h1
      obtain ⟨s4, s5, _, rfl⟩ := (hI _ _).mp h1
      rw [rngP_length, vRetV_va (s := SV.dll (rowsD (insBy c os p h))) 3 _ (by unfold insBy; simp)]
      rfl
  have h2 := run_ofO key (frF_dll _)
  rw [h2, rowsD_list]
end VL

set_option Elab.async false
set_option linter.all false
set_option maxRecDepth 100000
set_option maxHeartbeats 4000000
namespace VL
open PySem PySem.Spec PyProof.Rows L2

def spoiltM (c p h : Int) (os : List Op) (ins : List (List Int)) : List (List Int) :=
  let a := (c / 4 % h).toNat
  let r := ins.getD a []
  if c % 4 = 0 then ins.take a ++ ins.drop (a + 1)
  else if c % 4 = 1 then ins.take a ++ ([[]] ++ ins.drop a)
  else if c % 4 = 2 ∧ 0 < usedM os (c / 4 % h + 1) then ins.set a (r.take (usedM os (c / 4 % h + 1) - 1))
  else ins.set a (r.take (c / 32 % (r.length + 1)).toNat ++ [nth3 (-1) p (p + 5) (c / 300)] ++ r.drop (c / 32 % (r.length + 1)).toNat)
theorem inOk_bad {p h : Int} {os : List Op} {ins : List (List Int)} {k : Nat} {r : List Int} (hr : ins[k]? = some r) (hb : goodRow p os k r = false) : inOk p h os ins = false := by
  rw [Bool.eq_false_iff]; intro z
  unfold inOk at z
  rw [Bool.and_eq_true, List.all_eq_true] at z
  obtain ⟨jl, ej⟩ := List.getElem?_eq_some_iff.mp hr
  have := z.2 (goodRow p os k r) (List.mem_mapIdx.mpr ⟨k, jl, by rw [ej]⟩)
  rw [hb] at this; cases this
theorem spoilt_bad (c p h : Int) (os : List Op) (ins : List (List Int)) (hp : 0 < p) (hh : 0 < h) (hl : (ins.length : Int) = h) : inOk p h os (spoiltM c p h os ins) = false := by
  have a0 := Int.emod_nonneg (c / 4) (show h ≠ 0 by omega)
  have a1 := Int.emod_lt_of_pos (c / 4) hh
  unfold spoiltM
  dsimp only
  by_cases h0 : c % 4 = 0
  · rw [if_pos h0]
    unfold inOk
    rw [decide_eq_false (by rw [List.length_append, List.length_take, List.length_drop]; omega)]; rfl
  · rw [if_neg h0]
    by_cases h1 : c % 4 = 1
    · rw [if_pos h1]
      unfold inOk
      rw [decide_eq_false (by rw [List.length_append, List.length_append, List.length_take, List.length_drop]; simp; omega)]; rfl
    · rw [if_neg h1]
      have al : (c / 4 % h).toNat < ins.length := by omega
      by_cases h2 : c % 4 = 2 ∧ 0 < usedM os (c / 4 % h + 1)
      · rw [if_pos h2]
        refine inOk_bad (List.getElem?_set_self al) ?_
        unfold goodRow
        rw [show (((c / 4 % h).toNat : Nat) : Int) + 1 = c / 4 % h + 1 by omega, decide_eq_false (by rw [List.length_take]; omega), Bool.and_false]
      · rw [if_neg h2]
        refine inOk_bad (List.getElem?_set_self al) ?_
        unfold goodRow
        have hn : ¬ (0 ≤ nth3 (-1) p (p + 5) (c / 300) ∧ nth3 (-1) p (p + 5) (c / 300) < p) := by
          unfold nth3; repeat' split
          all_goals omega
        rw [Bool.and_eq_false_iff]
        left
        rw [Bool.eq_false_iff]
        intro z
        rw [List.all_eq_true] at z
        have := z (nth3 (-1) p (p + 5) (c / 300)) (by simp)
        rw [Bool.and_eq_true, decide_eq_true_iff, decide_eq_true_iff] at this
        exact hn this
theorem rowsP_eq (ins : List (List Int)) : rowsP ins = .list (ins.map fun r => .list (r.map .int)) := rfl
theorem run_spoilt (c p h f : Int) (os : List Op) (ins : List (List Int)) (hl : (ins.length : Int) = h) (hh : 0 < h ∧ h < 100) (ho : os.length < 900) (hr : ∀ r ∈ ins, r.length < 1000) :
    run S__law_spoilt [.d (rowsP ins), .d (opsD os), .d (.int c), tbl p h f] = .ok (.d (rowsP (spoiltM c p h os ins))) := by
  unfold S__law_spoilt B__law_spoilt
  rw [run_mk]
  have a0 := Int.emod_nonneg (c / 4) (show h ≠ 0 by omega)
  have a1 := Int.emod_lt_of_pos (c / 4) hh.1
  refine step_nx (e' := [.va (.f (.d (rowsP ins))), .va (.f (.d (opsD os))), .va (.f (.d (.int c))), .va (.f (tbl p h f)), .va (SV.dll (rowsD ins)), .no, .no, .no]) ?_ ?_
  · rw [vSetO_ap, lists_comp ins (by simp [rowsP]) (by omega) (by simp)]
    simp
  refine step_nx (e' := [.va (.f (.d (rowsP ins))), .va (.f (.d (opsD os))), .va (.f (.d (.int c))), .va (.f (tbl p h f)), .va (SV.dll (rowsD ins)), .va (.f (.d (.int (c / 4 % h)))), .no, .no]) (by simp (disch := first | rfl | assumption | omega | simp [*])) ?_
  unfold spoiltM
  dsimp only
  generalize hat : c / 4 % h = at_ at *
  have al : at_.toNat < ins.length := by omega
  have fr : frF (SV.dll (rowsD ins)) = .ok (.d (.list (ins.map fun r => .list (r.map .int)))) := by rw [frF_dll, rowsD_list]; rfl
  have c1 := cut_to (ins.map fun r => PyData.list (r.map .int)) a0
  have c2 := cut_from (ins.map fun r => PyData.list (r.map .int)) (a := at_ + 1) (by omega)
  have c3 := cut_from (ins.map fun r => PyData.list (r.map .int)) a0
  by_cases h0 : c % 4 = 0
  · rw [if_pos h0]
    have e1 : (at_ + 1).toNat = at_.toNat + 1 := by omega
    have l1 : ((ins.map fun r => PyData.list (r.map .int)).take at_.toNat).length + ((ins.map fun r => PyData.list (r.map .int)).drop (at_.toNat + 1)).length ≤ 16777216 := by simp; omega
    rw [e1] at c2
    simp (disch := first | rfl | assumption | omega | simp [*]) [h0, fr, c1, c2, -List.map_take, -List.map_drop]
    simp [rowsP, List.map_take, List.map_drop]
  · rw [if_neg h0]
    by_cases h1 : c % 4 = 1
    · rw [if_pos h1]
      have l1 : ((ins.map fun r => PyData.list (r.map .int)).take at_.toNat).length + ([PyData.list []] : List PyData).length ≤ 16777216 := by simp; omega
      have l2 : ((ins.map fun r => PyData.list (r.map .int)).take at_.toNat ++ ([PyData.list []] : List PyData)).length + ((ins.map fun r => PyData.list (r.map .int)).drop at_.toNat).length ≤ 16777216 := by simp; omega
      have l3 : min at_.toNat ins.length ≤ 16777215 := by omega
      have l4 : min at_.toNat ins.length + 1 + (ins.length - at_.toNat) ≤ 16777216 := by omega
      simp (disch := first | rfl | assumption | omega | simp [*]) [h0, h1, fr, c1, c3, l3, l4, -List.map_take, -List.map_drop, -List.length_append, -List.length_take, -List.length_drop]
      simp [rowsP, List.map_take, List.map_drop]
    · rw [if_neg h1]
      have hu := run_lused os (at_ + 1) (by omega)
      have hrow : ins[at_.toNat]? = some (ins.getD at_.toNat []) := by simp only [List.getD, List.getElem?_eq_getElem al, Option.getD_some]
      have rl := hr (ins.getD at_.toNat []) (List.mem_of_getElem? hrow)
      generalize ins.getD at_.toNat [] = r at *
      have ha : atI (rowsD ins) at_ = some (r.map .int) := by
        rw [atI_pos a0]; unfold rowsD; rw [List.getElem?_map, hrow]; rfl
      have hpl := plS_dll 4 [] (rowsD ins) at_ _ ha
      have ql : at_ < ((rowsD ins).length : Int) := by rw [rowsD_length]; omega
      refine step_nx (e' := [.va (.f (.d (rowsP ins))), .va (.f (.d (opsD os))), .va (.f (.d (.int c))), .va (.f (tbl p h f)), .va (SV.dll (rowsD ins)), .va (.f (.d (.int at_))), .no, .no]) (by simp (disch := first | rfl | assumption | omega | simp [*]) [h0]) ?_
      refine step_nx (e' := [.va (.f (.d (rowsP ins))), .va (.f (.d (opsD os))), .va (.f (.d (.int c))), .va (.f (tbl p h f)), .va (SV.dll (rowsD ins)), .va (.f (.d (.int at_))), .no, .no]) (by simp (disch := first | rfl | assumption | omega | simp [*]) [h1]) ?_
      refine step_nx (e' := [.va (.f (.d (rowsP ins))), .va (.f (.d (opsD os))), .va (.f (.d (.int c))), .va (.f (tbl p h f)), .va (SV.dll (rowsD ins)), .va (.f (.d (.int at_))), .va (.f (.d (.int (usedM os (at_ + 1))))), .no]) (by simp (disch := first | rfl | assumption | omega | simp [*]) [hu]) ?_
      have fin_dll : ∀ qs, frF (SV.dll (rowsD qs)) = .ok (.d (rowsP qs)) := fun qs => by rw [frF_dll, rowsD_list]
      have rset : ∀ q : List Int, (rowsD ins).set at_.toNat (q.map .int) = rowsD (ins.set at_.toNat q) := fun q => by unfold rowsD; rw [List.map_set]
      by_cases h2 : c % 4 = 2 ∧ 0 < usedM os (at_ + 1)
      · rw [if_pos h2]
        have ct := cut_to (r.map PyData.int) (b := (usedM os (at_ + 1) : Int) - 1) (by omega)
        rw [show ((usedM os (at_ + 1) : Int) - 1).toNat = usedM os (at_ + 1) - 1 by omega, ← List.map_take] at ct
        have hs := setI_dll (e := [.va (.f (.d (rowsP ins))), .va (.f (.d (opsD os))), .va (.f (.d (.int c))), .va (.f (tbl p h f)), .va (SV.dll (rowsD ins)), .va (.f (.d (.int at_))), .va (.f (.d (.int (usedM os (at_ + 1))))), .no]) (i := 4) (q := (r.take (usedM os (at_ + 1) - 1)).map .int) rfl a0 ql
        rw [rset] at hs
        have h2' : (0 : Int) < (usedM os (at_ + 1) : Int) := by omega
        generalize usedM os (at_ + 1) = u at *
        rw [vSeq_ap, vIfS_ap]
        have et : (vAndT (toT (vCmp .eq (toD (v2 modI (vVarD 2) (toD (vC (.int 4))))) (toD (vC (.int 2))))) (toT (vCmp .gt (vVarD 6) (toD (vC (.int 0)))))) [.va (.f (.d (rowsP ins))), .va (.f (.d (opsD os))), .va (.f (.d (.int c))), .va (.f (tbl p h f)), .va (SV.dll (rowsD ins)), .va (.f (.d (.int at_))), .va (.f (.d (.int u))), .no] = .ok true := by
          simp (disch := first | rfl | assumption | omega | simp [*]) [h2.1, h2.2, h2']
        rw [et, ofR_ok, if_pos rfl, vSeq_ap]
        have es : vSetI (plN 4) (vVarD 5) (vSl (plD (plX (plN 4) (vVarD 5))) vNoPart (vPart (toD (v2 subI (vVarD 6) (toD (vC (.int 1))))))) [.va (.f (.d (rowsP ins))), .va (.f (.d (opsD os))), .va (.f (.d (.int c))), .va (.f (tbl p h f)), .va (SV.dll (rowsD ins)), .va (.f (.d (.int at_))), .va (.f (.d (.int u))), .no]
            = .nx [.va (.f (.d (rowsP ins))), .va (.f (.d (opsD os))), .va (.f (.d (.int c))), .va (.f (tbl p h f)), .va (SV.dll (rowsD (ins.set at_.toNat (r.take (u - 1))))), .va (.f (.d (.int at_))), .va (.f (.d (.int u))), .no] := by
          simp (disch := first | rfl | assumption | omega | simp [*]) [hpl, ct]
          rw [List.map_take] at hs
          rw [hs]
          rfl
        rw [es, andThen_nx, vRetV_va (s := SV.dll (rowsD (ins.set at_.toNat (r.take (u - 1))))) 4 _ rfl, andThen_rt, fin_rt, fin_dll]
      · rw [if_neg h2]
        have et : ((vAndT (toT (vCmp .eq (toD (v2 modI (vVarD 2) (toD (vC (.int 4))))) (toD (vC (.int 2))))) (toT (vCmp .gt (vVarD 6) (toD (vC (.int 0)))))) [.va (.f (.d (rowsP ins))), .va (.f (.d (opsD os))), .va (.f (.d (.int c))), .va (.f (tbl p h f)), .va (SV.dll (rowsD ins)), .va (.f (.d (.int at_))), .va (.f (.d (.int (usedM os (at_ + 1))))), .no]) = .ok false := by
          by_cases z : c % 4 = 2
          · have z2 : ¬ (0 : Int) < (usedM os (at_ + 1) : Int) := by omega
            simp (disch := first | rfl | assumption | omega | simp [*]) [z]
            omega
          · simp (disch := first | rfl | assumption | omega | simp [*]) [z]
        rw [vSeq_ap, vIfS_ap, et, ofR_ok, if_neg (by simp), vSkip_ap, andThen_nx]
        have j0 := Int.emod_nonneg (c / 32) (show (r.length : Int) + 1 ≠ 0 by omega)
        have j1 := Int.emod_lt_of_pos (c / 32) (show 0 < (r.length : Int) + 1 by omega)
        have hb := at3 (-1) p (p + 5) (c / 300)
        generalize hj : c / 32 % ((r.length : Int) + 1) = j at *
        generalize nth3 (-1) p (p + 5) (c / 300) = v at *
        have hi := ins_dll (e := [.va (.f (.d (rowsP ins))), .va (.f (.d (opsD os))), .va (.f (.d (.int c))), .va (.f (tbl p h f)), .va (SV.dll (rowsD ins)), .va (.f (.d (.int at_))), .va (.f (.d (.int (usedM os (at_ + 1))))), .no]) (i := 4) (y := .int v) (j := j) rfl a0 ha ⟨j0, by omega⟩ (by rw [List.length_map]; omega)
        rw [show (r.map PyData.int).take j.toNat ++ [PyData.int v] ++ (r.map PyData.int).drop j.toNat = (r.take j.toNat ++ [v] ++ r.drop j.toNat).map .int by simp [List.map_take, List.map_drop], rset] at hi
        have es : vEx (vIns (plX (plN 4) (vVarD 5)) (toD (v2 modI (toD (v2 divI (vVarD 2) (toD (vC (.int 32))))) (frD (v2 addV (toD (plL (plX (plN 4) (vVarD 5)))) (toD (vC (.int 1))))))) (v2 ixP (frD (vLst (vCons (toD (v1 negI (toD (vC (.int 1))))) (vCons (toD (vFld "Table" "prime" (vVar 3))) (vCons (toD (frO (v2 addV (toD (vFld "Table" "prime" (vVar 3))) (toD (vC (.int 5)))))) vNil))))) (toD (v2 modI (toD (v2 divI (vVarD 2) (toD (vC (.int 300))))) (toD (vC (.int 3)))))))
            [.va (.f (.d (rowsP ins))), .va (.f (.d (opsD os))), .va (.f (.d (.int c))), .va (.f (tbl p h f)), .va (SV.dll (rowsD ins)), .va (.f (.d (.int at_))), .va (.f (.d (.int (usedM os (at_ + 1))))), .no]
            = .nx [.va (.f (.d (rowsP ins))), .va (.f (.d (opsD os))), .va (.f (.d (.int c))), .va (.f (tbl p h f)), .va (SV.dll (rowsD (ins.set at_.toNat (r.take j.toNat ++ [v] ++ r.drop j.toNat)))), .va (.f (.d (.int at_))), .va (.f (.d (.int (usedM os (at_ + 1))))), .no] := by
          simp (disch := first | rfl | assumption | omega | simp [*]) [hpl, hj, hb]
          rw [hi]
          simp
        rw [vSeq_ap, es, andThen_nx, vRetV_va (s := SV.dll (rowsD (ins.set at_.toNat (r.take j.toNat ++ [v] ++ r.drop j.toNat)))) 4 _ rfl, fin_rt, fin_dll]
end VL

set_option Elab.async false
set_option linter.all false
set_option maxRecDepth 100000
set_option maxHeartbeats 4000000
namespace VL
open PySem PySem.Spec PyProof.Rows L2

theorem run_steps_by (ns : List Int) (start many p h f : Int) (hs : 0 ≤ start) (hm : 0 ≤ many) (hm2 : many < 1000) (hp : 0 < p) (hh : 0 < h) :
    run S__law_steps_by [.sc ns, .d (.int start), .d (.int many), tbl p h f] = .ok (.d (opsD (opsBy ns start many p h))) := run_ofO (runO_steps_by ns start many p h f hs hm hm2 hp hh) (frF_opsT _)
theorem run_refused1 (p h f : Int) (t : Tb p h f) (os : List Op) (ins : List (List Int)) (hl : os.length < 1000) (il : ins.length < 1000) (hr : ∀ r ∈ ins, r.length < 1000) (hR : rightM p h os = true) (hI : inOk p h os ins = false) :
    run S__law_refused_v1 [tbl p h f, .d (opsD os), .d (rowsP ins)] = .ok (.d (.bool true)) := by
  have hp := run_plain p h f t os ins hl il hr
  rw [if_pos hR, if_neg (by rw [hI]; simp)] at hp
  unfold S__law_refused_v1 B__law_refused_v1
  rw [run_mk, vSeq_ap, vTry_ap, drop_err (xs := [tbl p h f, .d (opsD os), .d (rowsP ins)]) rfl hp]
  simp [offI, subE]
theorem run_steps_refused (p h f : Int) (t : Tb p h f) (os : List Op) (ins : List (List Int)) (hl : os.length < 1000) (il : ins.length < 1000) (hr : ∀ r ∈ ins, r.length < 1000) (hR : rightM p h os = false) :
    run S__law_steps_refused [tbl p h f, .d (opsD os), .d (rowsP ins)] = .ok (.d (.bool true)) := by
  have hp := run_plain p h f t os ins hl il hr
  rw [if_neg (by rw [hR]; simp)] at hp
  unfold S__law_steps_refused B__law_steps_refused
  rw [run_mk, vSeq_ap, vTry_ap, drop_err (xs := [tbl p h f, .d (opsD os), .d (rowsP ins)]) rfl hp]
  simp [offI, subE]
  decide +kernel
theorem fit_rows (ins : List (List Int)) : fit 3 (rowsP ins) = true := by
  show (ins.map fun r => PyData.list (r.map .int)).all (fit 2) = true
  rw [List.all_eq_true]
  intro x m
  obtain ⟨r, _, rfl⟩ := List.mem_map.mp m
  exact fit_ints 1 r
@[simp] theorem cop_eq_rows (ins : List (List Int)) : Cop.h .eq (rowsP ins) (rowsP ins) = .ok (.d (.bool true)) := by
  rw [cop_eq 3 (fit_rows ins) (fit_rows ins)]
  simp
theorem insBy_len (c : Int) (os : List Op) (p h : Int) (hh : 0 ≤ h) : ((insBy c os p h).length : Int) = h := by unfold insBy; simp; omega
theorem insBy_rows (c : Int) (os : List Op) (p h : Int) (ho : os.length < 900) : ∀ r ∈ insBy c os p h, r.length < 902 := fun r m => by
  unfold insBy at m
  obtain ⟨k, _, rfl⟩ := List.mem_map.mp m
  have := insRow_len c os p (1 + (k : Int))
  omega
theorem spoilt_rows (c p h : Int) (os : List Op) (ins : List (List Int)) (n : Nat) (hr : ∀ r ∈ ins, r.length < n) (h0 : 0 < n) : ∀ r ∈ spoiltM c p h os ins, r.length < n + 1 := fun r m => by
  unfold spoiltM at m
  dsimp only at m
  have hd : (ins.getD (c / 4 % h).toNat []).length < n := by
    simp only [List.getD]
    cases z : ins[(c / 4 % h).toNat]? with
    | none => simpa using h0
    | some q => exact hr q (List.mem_of_getElem? z)
  split at m
  · rcases List.mem_append.mp m with m | m
    · have := hr r (List.mem_of_mem_take m); omega
    · have := hr r (List.mem_of_mem_drop m); omega
  · split at m
    · rcases List.mem_append.mp m with m | m
      · have := hr r (List.mem_of_mem_take m); omega
      · rcases List.mem_append.mp m with m | m
        · have e : r = [] := by simpa using m
          subst e; simp
        · have := hr r (List.mem_of_mem_drop m); omega
    · split at m
      · rcases List.mem_or_eq_of_mem_set m with m | m
        · have := hr r m; omega
        · subst m; rw [List.length_take]; omega
      · rcases List.mem_or_eq_of_mem_set m with m | m
        · have := hr r m; omega
        · subst m
          simp only [List.length_append, List.length_take, List.length_drop, List.length_cons, List.length_nil]
          omega
theorem spoilt_len (c p h : Int) (os : List Op) (ins : List (List Int)) : (spoiltM c p h os ins).length ≤ ins.length + 1 := by
  unfold spoiltM
  dsimp only
  repeat' split
  · rw [List.length_append, List.length_take, List.length_drop]; omega
  · rw [List.length_append, List.length_append, List.length_take, List.length_drop]; simp; omega
  · rw [List.length_set]; omega
  · rw [List.length_set]; omega
theorem run_law11 (ns : List Int) : run S_law_v10 [.sc ns] = .ok (.d (.bool true)) := by
  unfold S_law_v10 B_law_v10
  rw [run_mk]
  have t := tab_ok (cellAt ns 0)
  have tp := t.pos
  have t3 := t.h3
  have t7 := t.h7
  have thp := t.hp
  have f1 := t.f1
  have f2 := t.f2
  have fh := t.fh
  have hb := run_table_by (cellAt ns 0)
  generalize tabP (cellAt ns 0) = p at *
  generalize tabH (cellAt ns 0) = h at *
  generalize tabF (cellAt ns 0) = f at *
  have q0 := Int.emod_nonneg (cellAt ns 1) (show (20 : Int) ≠ 0 by omega)
  have q1 := Int.emod_lt_of_pos (cellAt ns 1) (show (0 : Int) < 20 by omega)
  have hst := run_steps_by ns 4 (1 + cellAt ns 1 % 20) p h f (by omega) (by omega) (by omega) (by omega) (by omega)
  have ol := opsBy_length ns 4 (1 + cellAt ns 1 % 20) p h
  have oo := opsBy_ok ns 4 (1 + cellAt ns 1 % 20) p h (by omega) (by omega)
  generalize opsBy ns 4 (1 + cellAt ns 1 % 20) p h = os at *
  have hR : rightM p h os = true := by
    unfold rightM
    rw [oo, ol]
    simp
    omega
  have hin := run_inputs_by (cellAt ns 2) p h f os (by omega) (by omega) (by omega)
  have io := insBy_ok (cellAt ns 2) os p h (by omega) (by omega)
  have il := insBy_len (cellAt ns 2) os p h (by omega)
  have ir := insBy_rows (cellAt ns 2) os p h (by omega)
  generalize insBy (cellAt ns 2) os p h = ins at *
  have hI : inOk p h os ins = true := by
    unfold inOk
    rw [decide_eq_true il, Bool.true_and, List.all_eq_true]
    intro b m
    obtain ⟨i, hi, rfl⟩ := List.mem_mapIdx.mp m
    obtain ⟨r1, r2⟩ := io.row i _ (List.getElem?_eq_getElem hi)
    unfold goodRow
    simp only [id_eq, Bool.and_eq_true, List.all_eq_true, decide_eq_true_iff]
    exact ⟨fun c m => r1 c m, r2⟩
  refine step_nx (e' := [.va (.f (.sc ns)), .va (.f (tbl p h f)), .no, .no, .no, .no, .no, .no, .no, .no]) (by simp (disch := first | rfl | assumption | omega | simp [*]) [hb]) ?_
  refine step_nx (e' := [.va (.f (.sc ns)), .va (.f (tbl p h f)), .va (.f (.d (opsD os))), .no, .no, .no, .no, .no, .no, .no]) (by simp (disch := first | rfl | assumption | omega | simp [*]) [hst]) ?_
  refine step_nx (e' := [.va (.f (.sc ns)), .va (.f (tbl p h f)), .va (.f (.d (opsD os))), .va (.f (.d (rowsP ins))), .no, .no, .no, .no, .no, .no]) (by simp (disch := first | rfl | assumption | omega | simp [*]) [hin]) ?_
  obtain ⟨I, hJ⟩ : ∃ I : Env → Prop, ∀ e, I e ↔ ∃ s4 s5, (free s4 = true ∧ free s5 = true) ∧ e = [.va (.f (.sc ns)), .va (.f (tbl p h f)), .va (.f (.d (opsD os))), .va (.f (.d (rowsP ins))), s4, s5, .no, .no, .no, .no] := ⟨_, fun _ => Iff.rfl⟩
  refine step_wp (P := I) ?_ fun e he => ?_
  · by_cases hg : cellAt ns 3 % 3 = 1
    · have hs := run_spoilt (cellAt ns 3 / 3) p h f os ins il (by omega) (by omega) (fun r m => by have := ir r m; omega)
      have sb := spoilt_bad (cellAt ns 3 / 3) p h os ins (by omega) (by omega) il
      have sr := spoilt_rows (cellAt ns 3 / 3) p h os ins 902 ir (by omega)
      have sl := spoilt_len (cellAt ns 3 / 3) p h os ins
      generalize spoiltM (cellAt ns 3 / 3) p h os ins = bad at *
      have h1 := run_refused1 p h f t os bad (by omega) (by omega) (fun r m => by have := sr r m; omega) hR sb
      have w0 := Int.emod_nonneg (cellAt ns 1 / 20) (show (3 : Int) ≠ 0 by omega)
      have w1 := Int.emod_lt_of_pos (cellAt ns 1 / 20) (show (0 : Int) < 3 by omega)
      have cs : cellAt ns 1 / 20 % 3 = 0 ∨ cellAt ns 1 / 20 % 3 = 1 ∨ cellAt ns 1 / 20 % 3 = 2 := by omega
      have kk : ∀ wr : List Op, wr.length < 1000 → rightM p h wr = false → run S__law_steps_refused [tbl p h f, .d (opsD wr), .d (rowsP ins)] = .ok (.d (.bool true)) ∧ run S__law_steps_refused [tbl p h f, .d (opsD wr), .d (rowsP bad)] = .ok (.d (.bool true)) := fun wr wl wb =>
        ⟨run_steps_refused p h f t wr ins wl (by omega) (fun r m => by have := ir r m; omega) wb, run_steps_refused p h f t wr bad wl (by omega) (fun r m => by have := sr r m; omega) wb⟩
      rcases cs with e | e | e
      · have k := kk [.inn 0] (by simp) (by simp [rightM, okL, Op.ok])
        unfold opsD Op.D at k
        simp at k
        simp (disch := first | rfl | assumption | omega | simp [*]) [hg, hs, h1, e, ix3_0, k.1, k.2]
        exact (hJ _).mpr ⟨_, _, ⟨rfl, rfl⟩, rfl⟩
      · have k := kk [.inn 1, .opn 1] (by simp) (by simp [rightM, okL, Op.ok])
        unfold opsD Op.D at k
        simp at k
        simp (disch := first | rfl | assumption | omega | simp [*]) [hg, hs, h1, e, ix3_1, k.1, k.2]
        exact (hJ _).mpr ⟨_, _, ⟨rfl, rfl⟩, rfl⟩
      · have k := kk [] (by simp) (by simp [rightM])
        unfold opsD at k
        simp at k
        simp (disch := first | rfl | assumption | omega | simp [*]) [hg, hs, h1, e, ix3_2, k.1, k.2]
        exact (hJ _).mpr ⟨_, _, ⟨rfl, rfl⟩, rfl⟩
    · simp (disch := first | rfl | assumption | omega | simp [*]) [hg]
      exact (hJ _).mpr ⟨.no, .no, ⟨rfl, rfl⟩, rfl⟩
  obtain ⟨s4, s5, ⟨h4, h5⟩, rfl⟩ := (hJ _).mp he
  refine step_nx (e' := [.va (.f (.sc ns)), .va (.f (tbl p h f)), .va (.f (.d (opsD os))), .va (.f (.d (rowsP ins))), s4, s5, .va (.f (.d (rowsP ins))), .no, .no, .no]) ?_ ?_
  · rw [vSet_ap, frO_ap, lists_comp ins (by simp [rowsP]) (by omega) (by simp), bind_ok, frF_dll, rowsD_list]
    simp
  refine step_nx (e' := [.va (.f (.sc ns)), .va (.f (tbl p h f)), .va (.f (.d (opsD os))), .va (.f (.d (rowsP ins))), s4, s5, .va (.f (.d (rowsP ins))), .va (.f (.d (opsD os))), .no, .no]) ?_ ?_
  · have e1 : listP (opsD os) = .ok (opsT os) := rfl
    simp (disch := first | rfl | assumption | omega | simp [*]) [e1]
  have hp := run_plain p h f t os ins (by omega) (by omega) (fun r m => by have := ir r m; omega)
  rw [if_pos hR, if_pos hI] at hp
  have hlp := run_lplain p h f t os ins (by omega) oo io
  simp (disch := first | rfl | assumption | omega | simp [*]) [hp, hlp]
theorem law11 : ∀ ns : List Int, ns.length ≤ 63 → ∃ a, S_law_v10 [.va (.f (.sc ns))] = .ret (.f (.d (.bool true))) a := fun ns _ => law_end (run_law11 ns)
end VL

set_option Elab.async false
set_option linter.all false
set_option maxRecDepth 100000
set_option maxHeartbeats 4000000

namespace K11
open PySem PySem.Spec PyProof.Rows L2 VL

def topS (i : Nat) : Stmt := PySem.Challenge.pw_veilsum_k11_plain_reckonings.main.body.getD i (.Pass ⟨0, 0, 0, 0⟩)
/-- what the top has written, as the walk asks for it -/
structure Txt (K : PySem.W.Frag) (mg : Str → Option Value) : Prop where
  no : ∀ x : Str, ((["all", "bool", "enumerate", "int", "isinstance", "len", "list", "min", "range", "zip"] : List Str).contains x) = true → mg x = none
  f_Table_few : FldK K mg "Table" "few"
  f_Table_hands : FldK K mg "Table" "hands"
  f_Table_prime : FldK K mg "Table" "prime"
  e_BadInputs : ExF K mg "BadInputs"
  e_BadSteps : ExF K mg "BadSteps"
  e_BadTable : ExF K mg "BadTable"
  exs : Exs K mg ["VeilError", "BadTable", "BadSteps", "BadInputs"]
  g_PRIMES : GTup K mg "PRIMES" [5, 7, 11, 13, 17, 19, 23, 29, 31]
section
variable {P : Program} {w : World} {K : PySem.W.Frag} {mg : Str → Option Value} {base : Heap}
abbrev st__law_cell_at : Stmt := topS 18
abbrev N__law_cell_at : List Str := ["script", "k"]
theorem sc__law_cell_at : FnScope N__law_cell_at ["script", "k"] (defScope st__law_cell_at) := ⟨rfl, rfl, rfl, by decide +kernel, rfl, by decide +kernel, by decide +kernel⟩
theorem ok__law_cell_at (F : Sits K mg "_law_cell_at" st__law_cell_at ["script", "k"]) (T : Txt K mg)  : Def P w K mg base 1 2 "_law_cell_at" ["script", "k"] S__law_cell_at := by
  unfold S__law_cell_at B__law_cell_at
  exact def_ok F sc__law_cell_at rfl rfl fun f cdv A outer s H E hr =>
  (vss_cons (vs_if (vt_cmp .lt (hu65 hr) (vd_var (pv 1)) (vd_p (vp_lenS (T.no "len" rfl) (vp_var (pv 0)))) rfl) (vss_one (vs_retP (vp_ixS (vp_var (pv 0)) (vd_var (pv 1)) (fun _ _ => rfl)))) vss_nil)
  (vss_one (vs_retP vp_int)))
abbrev st__law_mix : Stmt := topS 19
abbrev N__law_mix : List Str := ["cell", "k", "many"]
theorem sc__law_mix : FnScope N__law_mix ["cell", "k", "many"] (defScope st__law_mix) := ⟨rfl, rfl, rfl, by decide +kernel, rfl, by decide +kernel, by decide +kernel⟩
theorem ok__law_mix (F : Sits K mg "_law_mix" st__law_mix ["cell", "k", "many"]) (T : Txt K mg)  : Def P w K mg base 1 3 "_law_mix" ["cell", "k", "many"] S__law_mix := by
  unfold S__law_mix B__law_mix
  exact def_ok F sc__law_mix rfl rfl fun f cdv A outer s H E hr =>
  (vss_one (vs_retP (vp_mod (vd_p (vp_div (vd_p (vp_mod (vd_o (vo_mul (vd_o (vo_add (vd_p (vp_mod (vd_var (pv 0)) (vd_p vp_int))) (vd_p vp_int))) (vd_o (vo_add (vd_p vp_int) (vd_o (vo_mul (vd_p vp_int) (vd_var (pv 1)))))))) (vd_p vp_int))) (vd_p vp_int))) (vd_var (pv 2)))))
abbrev st__law_used : Stmt := topS 25
abbrev N__law_used : List Str := ["steps", "hand", "step"]
theorem sc__law_used : FnScope N__law_used ["steps", "hand"] (defScope st__law_used) := ⟨rfl, rfl, rfl, by decide +kernel, rfl, by decide +kernel, by decide +kernel⟩
theorem ok__law_used (F : Sits K mg "_law_used" st__law_used ["steps", "hand"]) (T : Txt K mg)  : Def P w K mg base 1 2 "_law_used" ["steps", "hand"] S__law_used := by
  unfold S__law_used B__law_used
  exact def_ok F sc__law_used rfl rfl fun f cdv A outer s H E hr =>
  (vss_one (vs_retP (vp_len (T.no "len" rfl) (vd_o (vo_comp (own := [("step", 2)]) (ts := [2]) rfl sc__law_used.nd (vir_list (vd_var (pv 0))) (blkOk_by (N := N__law_used) (sc := defScope st__law_used) (by decide +kernel)) (fun _ _ _ _ _ => (vg_name sc__law_used.nd rfl (by first | exact .inl rfl | exact .inr rfl) (by first | exact .inl rfl | exact .inr rfl))) (fun _ _ _ _ _ => (vts_one (vt_cmp .eq (hu65 hr) (vd_var (pv 2)) (vd_p (vp_tup (va_cons vp_str (va_cons (vp_var (pv 1)) va_nil rfl) rfl))) rfl))) (fun _ _ _ _ _ => (vo_p (vp_var (pv 2)))) (by decide))))))
abbrev st__law_inputs_by : Stmt := topS 26
abbrev N__law_inputs_by : List Str := ["cell", "steps", "table", "found", "hand", "many", "k"]
theorem sc__law_inputs_by : FnScope N__law_inputs_by ["cell", "steps", "table"] (defScope st__law_inputs_by) := ⟨rfl, rfl, rfl, by decide +kernel, rfl, by decide +kernel, by decide +kernel⟩
theorem ok__law_inputs_by (F : Sits K mg "_law_inputs_by" st__law_inputs_by ["cell", "steps", "table"]) (T : Txt K mg) (D__law_mix : Def P w K mg base 1 3 "_law_mix" ["cell", "k", "many"] S__law_mix) (D__law_used : Def P w K mg base 1 2 "_law_used" ["steps", "hand"] S__law_used) : Def P w K mg base 2 3 "_law_inputs_by" ["cell", "steps", "table"] S__law_inputs_by := by
  unfold S__law_inputs_by B__law_inputs_by
  exact def_ok F sc__law_inputs_by rfl rfl fun f cdv A outer s H E hr =>
  (vss_cons (vs_setO (i := 3) sc__law_inputs_by.nd rfl (by first | exact .inl rfl | exact .inr rfl) (vo_lst va_nil) rfl (by first | exact .inl rfl | exact .inr rfl))
  (vss_cons (vs_for po_body rfl (vif_rng2 (T.no "range" rfl) (vd_p vp_int) (vd_o (vo_add (vd_p (vp_fld T.f_Table_hands (vp_var (pv 2)) rfl)) (vd_p vp_int)))) (vg_name sc__law_inputs_by.nd rfl (by first | exact .inl rfl | exact .inr rfl) (by first | exact .inl rfl | exact .inr rfl))
  (vss_cons (vs_set (i := 5) sc__law_inputs_by.nd rfl (by first | exact .inl rfl | exact .inr rfl) (vp_o (vo_add (vd_o (vo_callD D__law_used hr (by decide) tk_body (van_cons (vp_var (pv 1)) (van_cons (vp_var (pv 4)) van_nil rfl) rfl))) (vd_o (vo_callD D__law_mix hr (by decide) tk_body (van_cons (vp_var (pv 0)) (van_cons (vp_o (vo_add (vd_p vp_int) (vd_var (pv 4)))) (van_cons vp_int van_nil rfl) rfl) rfl))))) rfl (by first | exact .inl rfl | exact .inr rfl))
  (vss_one (vs_ex (ve_app (vpl_name (pv 3)) (vo_comp (own := [("k", 6)]) (ts := [6]) rfl sc__law_inputs_by.nd (vif_vir (vif_rng1 (T.no "range" rfl) (vd_var (pv 5)))) (blkOk_by (N := N__law_inputs_by) (sc := defScope st__law_inputs_by) (by decide +kernel)) (fun _ _ _ _ _ => (vg_name sc__law_inputs_by.nd rfl (by first | exact .inl rfl | exact .inr rfl) (by first | exact .inl rfl | exact .inr rfl))) (fun _ _ _ _ _ => vts_nil) (fun _ _ _ _ _ => (vo_callD D__law_mix hr (by decide) takes0 (van_cons (vp_var (pv 0)) (van_cons (vp_o (vo_add (vd_o (vo_add (vd_p vp_int) (vd_o (vo_mul (vd_p vp_int) (vd_var (pv 4)))))) (vd_var (pv 6)))) (van_cons (vp_fld T.f_Table_prime (vp_var (pv 2)) rfl) van_nil rfl) rfl) rfl))) (by decide)))))))
  (vss_one (vs_retV (pv 3)))))
abbrev st__law_plain : Stmt := topS 28
abbrev N__law_plain : List Str := ["prime", "steps", "inputs", "rest", "found", "step", "numbers"]
theorem sc__law_plain : FnScope N__law_plain ["prime", "steps", "inputs"] (defScope st__law_plain) := ⟨rfl, rfl, rfl, by decide +kernel, rfl, by decide +kernel, by decide +kernel⟩
theorem ok__law_plain (F : Sits K mg "_law_plain" st__law_plain ["prime", "steps", "inputs"]) (T : Txt K mg)  : Def P w K mg base 1 3 "_law_plain" ["prime", "steps", "inputs"] S__law_plain := by
  unfold S__law_plain B__law_plain
  exact def_ok F sc__law_plain rfl rfl fun f cdv A outer s H E hr =>
  (vss_cons (vs_setLc (i := 3) (own := [("numbers", 6)]) (ts := [6]) rfl sc__law_plain.nd rfl rfl (sw_true rfl rfl rfl (by decide +kernel)) (vir_list (vd_var (pv 2))) (blkOk_by (N := N__law_plain) (sc := defScope st__law_plain) (by decide +kernel)) (fun _ _ _ _ _ => (vg_name sc__law_plain.nd rfl (by first | exact .inl rfl | exact .inr rfl) (by first | exact .inl rfl | exact .inr rfl))) (fun _ _ _ _ _ => vts_nil) (fun _ _ _ _ _ => (vo_list (T.no "list" rfl) (vd_var (pv 6)))) (by decide))
  (vss_cons (vs_setO (i := 4) sc__law_plain.nd rfl (by first | exact .inl rfl | exact .inr rfl) (vo_lst va_nil) rfl (by first | exact .inl rfl | exact .inr rfl))
  (vss_cons (vs_for po_body rfl (vif_list (vp_var (pv 1))) (vg_name sc__law_plain.nd rfl (by first | exact .inl rfl | exact .inr rfl) (by first | exact .inl rfl | exact .inr rfl))
  (vss_one (vs_if (vt_cmp .eq (hu65 hr) (vd_p (vp_ix (vd_var (pv 5)) (vd_p vp_int) (fun _ _ => rfl))) (vd_p vp_str) rfl) (vss_one (vs_ex (ve_appE (vpl_name (pv 4)) (ve_pop0 (vpl_ix (vpl_name (pv 3)) (vd_p (vp_sub (vd_p (vp_ix (vd_var (pv 5)) (vd_p vp_int) (fun _ _ => rfl))) (vd_p vp_int))) (fun _ _ => rfl)))))) (vss_one (vs_if (vt_cmp .eq (hu65 hr) (vd_p (vp_ix (vd_var (pv 5)) (vd_p vp_int) (fun _ _ => rfl))) (vd_p vp_str) rfl) (vss_one (vs_ex (ve_app (vpl_name (pv 4)) (vo_p (vp_ix (vd_var (pv 5)) (vd_p vp_int) (fun _ _ => rfl)))))) (vss_one (vs_if (vt_cmp .eq (hu65 hr) (vd_p (vp_ix (vd_var (pv 5)) (vd_p vp_int) (fun _ _ => rfl))) (vd_p vp_str) rfl) (vss_one (vs_ex (ve_app (vpl_name (pv 4)) (vo_p (vp_mod (vd_o (vo_mul (vd_p (vp_pl (vpl_ix (vpl_name (pv 4)) (vd_p (vp_ix (vd_var (pv 5)) (vd_p vp_int) (fun _ _ => rfl))) (fun _ _ => rfl)))) (vd_p (vp_ix (vd_var (pv 5)) (vd_p vp_int) (fun _ _ => rfl))))) (vd_var (pv 0))))))) (vss_one (vs_if (vt_cmp .eq (hu65 hr) (vd_p (vp_ix (vd_var (pv 5)) (vd_p vp_int) (fun _ _ => rfl))) (vd_p vp_str) rfl) (vss_one (vs_ex (ve_app (vpl_name (pv 4)) (vo_p (vp_mod (vd_o (vo_add (vd_p (vp_pl (vpl_ix (vpl_name (pv 4)) (vd_p (vp_ix (vd_var (pv 5)) (vd_p vp_int) (fun _ _ => rfl))) (fun _ _ => rfl)))) (vd_p (vp_pl (vpl_ix (vpl_name (pv 4)) (vd_p (vp_ix (vd_var (pv 5)) (vd_p vp_int) (fun _ _ => rfl))) (fun _ _ => rfl)))))) (vd_var (pv 0))))))) (vss_one (vs_if (vt_cmp .eq (hu65 hr) (vd_p (vp_ix (vd_var (pv 5)) (vd_p vp_int) (fun _ _ => rfl))) (vd_p vp_str) rfl) (vss_one (vs_ex (ve_app (vpl_name (pv 4)) (vo_p (vp_mod (vd_p (vp_sub (vd_p (vp_pl (vpl_ix (vpl_name (pv 4)) (vd_p (vp_ix (vd_var (pv 5)) (vd_p vp_int) (fun _ _ => rfl))) (fun _ _ => rfl)))) (vd_p (vp_pl (vpl_ix (vpl_name (pv 4)) (vd_p (vp_ix (vd_var (pv 5)) (vd_p vp_int) (fun _ _ => rfl))) (fun _ _ => rfl)))))) (vd_var (pv 0))))))) (vss_one (vs_if (vt_cmp .eq (hu65 hr) (vd_p (vp_ix (vd_var (pv 5)) (vd_p vp_int) (fun _ _ => rfl))) (vd_p vp_str) rfl) (vss_one (vs_ex (ve_app (vpl_name (pv 4)) (vo_p (vp_mod (vd_o (vo_mul (vd_p (vp_pl (vpl_ix (vpl_name (pv 4)) (vd_p (vp_ix (vd_var (pv 5)) (vd_p vp_int) (fun _ _ => rfl))) (fun _ _ => rfl)))) (vd_p (vp_pl (vpl_ix (vpl_name (pv 4)) (vd_p (vp_ix (vd_var (pv 5)) (vd_p vp_int) (fun _ _ => rfl))) (fun _ _ => rfl)))))) (vd_var (pv 0))))))) (vss_one (vs_ex (ve_app (vpl_name (pv 4)) (vo_p (vp_pl (vpl_ix (vpl_name (pv 4)) (vd_p (vp_ix (vd_var (pv 5)) (vd_p vp_int) (fun _ _ => rfl))) (fun _ _ => rfl))))))))))))))))))))
  (vss_one (vs_retV (pv 4))))))
abbrev st_is_number : Stmt := topS 6
abbrev N_is_number : List Str := ["table", "number"]
theorem sc_is_number : FnScope N_is_number ["table", "number"] (defScope st_is_number) := ⟨rfl, rfl, rfl, by decide +kernel, rfl, by decide +kernel, by decide +kernel⟩
theorem ok_is_number (F : Sits K mg "is_number" st_is_number ["table", "number"]) (T : Txt K mg)  : Def P w K mg base 1 2 "is_number" ["table", "number"] S_is_number := by
  unfold S_is_number B_is_number
  exact def_ok F sc_is_number rfl rfl fun f cdv A outer s H E hr =>
  (vss_one (vs_retP (vp_chain .le .lt (hu65 hr) (vd_p vp_int) (vd_var (pv 1)) (vd_p (vp_fld T.f_Table_prime (vp_var (pv 0)) rfl)) rfl)))
abbrev st_used : Stmt := topS 11
abbrev N_used : List Str := ["steps", "hand", "step"]
theorem sc_used : FnScope N_used ["steps", "hand"] (defScope st_used) := ⟨rfl, rfl, rfl, by decide +kernel, rfl, by decide +kernel, by decide +kernel⟩
theorem ok_used (F : Sits K mg "used" st_used ["steps", "hand"]) (T : Txt K mg)  : Def P w K mg base 1 2 "used" ["steps", "hand"] S_used := by
  unfold S_used B_used
  exact def_ok F sc_used rfl rfl fun f cdv A outer s H E hr =>
  (vss_one (vs_retP (vp_len (T.no "len" rfl) (vd_o (vo_comp (own := [("step", 2)]) (ts := [2]) rfl sc_used.nd (vir_list (vd_var (pv 0))) (blkOk_by (N := N_used) (sc := defScope st_used) (by decide +kernel)) (fun _ _ _ _ _ => (vg_name sc_used.nd rfl (by first | exact .inl rfl | exact .inr rfl) (by first | exact .inl rfl | exact .inr rfl))) (fun _ _ _ _ _ => (vts_one (vt_w (vw_and (vt_cmp .eq (hu65 hr) (vd_p (vp_ix (vd_var (pv 2)) (vd_p vp_int) (fun _ _ => rfl))) (vd_p vp_str) rfl) (vw_and1 (vt_cmp .eq (hu65 hr) (vd_p (vp_ix (vd_var (pv 2)) (vd_p vp_int) (fun _ _ => rfl))) (vd_var (pv 1)) rfl)))))) (fun _ _ _ _ _ => (vo_p (vp_var (pv 2)))) (by decide))))))
abbrev st_check_inputs : Stmt := topS 10
abbrev N_check_inputs : List Str := ["table", "steps", "inputs", "k", "numbers", "number"]
theorem sc_check_inputs : FnScope N_check_inputs ["table", "steps", "inputs"] (defScope st_check_inputs) := ⟨rfl, rfl, rfl, by decide +kernel, rfl, by decide +kernel, by decide +kernel⟩
theorem ok_check_inputs (F : Sits K mg "check_inputs" st_check_inputs ["table", "steps", "inputs"]) (T : Txt K mg) (D_is_number : Def P w K mg base 1 2 "is_number" ["table", "number"] S_is_number) (D_used : Def P w K mg base 1 2 "used" ["steps", "hand"] S_used) : Def P w K mg base 2 3 "check_inputs" ["table", "steps", "inputs"] S_check_inputs := by
  unfold S_check_inputs B_check_inputs
  exact def_ok F sc_check_inputs rfl rfl fun f cdv A outer s H E hr =>
  (vss_cons (vs_if (vt_cmp .ne (hu65 hr) (vd_p (vp_len (T.no "len" rfl) (vd_var (pv 2)))) (vd_p (vp_fld T.f_Table_hands (vp_var (pv 0)) rfl)) rfl) (vss_one (vs_raiseE T.e_BadInputs rfl tk_body)) vss_nil)
  (vss_one (vs_for po_body rfl (vif_enum (T.no "enumerate" rfl) (vp_var (pv 2))) (vg_tup rfl (vgs_cons (vg_name sc_check_inputs.nd rfl (by first | exact .inl rfl | exact .inr rfl) (by first | exact .inl rfl | exact .inr rfl)) (vgs_cons (vg_name sc_check_inputs.nd rfl (by first | exact .inl rfl | exact .inr rfl) (by first | exact .inl rfl | exact .inr rfl)) vgs_nil rfl) rfl) rfl rfl)
  (vss_one (vs_if (vt_w (vw_or (vt_not (vt_p (vp_all rfl (T.no "all" rfl) (vd_o (vo_comp (own := [("number", 5)]) (ts := [5]) rfl sc_check_inputs.nd (vir_list (vd_var (pv 4))) (blkOk_by (N := N_check_inputs) (sc := defScope st_check_inputs) (by decide +kernel)) (fun _ _ _ _ _ => (vg_name sc_check_inputs.nd rfl (by first | exact .inl rfl | exact .inr rfl) (by first | exact .inl rfl | exact .inr rfl))) (fun _ _ _ _ _ => vts_nil) (fun _ _ _ _ _ => (vo_callD D_is_number hr (by decide) takes0 (van_cons (vp_var (pv 0)) (van_cons (vp_var (pv 5)) van_nil rfl) rfl))) (by decide)))))) (vw_or1 (vt_cmp .lt (hu65 hr) (vd_p (vp_len (T.no "len" rfl) (vd_var (pv 4)))) (vd_o (vo_callD D_used hr (by decide) tk_body (van_cons (vp_var (pv 1)) (van_cons (vp_o (vo_add (vd_var (pv 3)) (vd_p vp_int))) van_nil rfl) rfl))) rfl)))) (vss_one (vs_raiseE T.e_BadInputs rfl tk_body)) vss_nil)))))
abbrev st_step_right : Stmt := topS 7
abbrev N_step_right : List Str := ["table", "step", "at", "word"]
theorem sc_step_right : FnScope N_step_right ["table", "step", "at"] (defScope st_step_right) := ⟨rfl, rfl, rfl, by decide +kernel, rfl, by decide +kernel, by decide +kernel⟩
theorem ok_step_right (F : Sits K mg "step_right" st_step_right ["table", "step", "at"]) (T : Txt K mg) (D_is_number : Def P w K mg base 1 2 "is_number" ["table", "number"] S_is_number) : Def P w K mg base 2 3 "step_right" ["table", "step", "at"] S_step_right := by
  unfold S_step_right B_step_right
  exact def_ok F sc_step_right rfl rfl fun f cdv A outer s H E hr =>
  (vss_cons (vs_set (i := 3) sc_step_right.nd rfl (by first | exact .inl rfl | exact .inr rfl) (vp_ix (vd_var (pv 1)) (vd_p vp_int) (fun _ _ => rfl)) rfl (by first | exact .inl rfl | exact .inr rfl))
  (vss_cons (vs_if (vt_cmp .eq (hu65 hr) (vd_var (pv 3)) (vd_p vp_str) rfl) (vss_one (vs_retP (vp_chain .le .le (hu65 hr) (vd_p vp_int) (vd_p (vp_ix (vd_var (pv 1)) (vd_p vp_int) (fun _ _ => rfl))) (vd_p (vp_fld T.f_Table_hands (vp_var (pv 0)) rfl)) rfl))) vss_nil)
  (vss_cons (vs_if (vt_cmp .eq (hu65 hr) (vd_var (pv 3)) (vd_p vp_str) rfl) (vss_one (vs_ret (vo_callD D_is_number hr (by decide) tk_body (van_cons (vp_var (pv 0)) (van_cons (vp_ix (vd_var (pv 1)) (vd_p vp_int) (fun _ _ => rfl)) van_nil rfl) rfl)))) vss_nil)
  (vss_cons (vs_if (vt_not (vt_chain .le .lt (hu65 hr) (vd_p vp_int) (vd_p (vp_ix (vd_var (pv 1)) (vd_p vp_int) (fun _ _ => rfl))) (vd_var (pv 2)) rfl)) (vss_one (vs_retP vp_bl)) vss_nil)
  (vss_cons (vs_if (vt_cmp .eq (hu65 hr) (vd_var (pv 3)) (vd_p vp_str) rfl) (vss_one (vs_ret (vo_callD D_is_number hr (by decide) tk_body (van_cons (vp_var (pv 0)) (van_cons (vp_ix (vd_var (pv 1)) (vd_p vp_int) (fun _ _ => rfl)) van_nil rfl) rfl)))) vss_nil)
  (vss_one (vs_retP (vp_or (vp_cmp .isin (hu65 hr) (vd_var (pv 3)) (vd_p (vp_tup (va_cons vp_str (va_cons vp_str va_nil rfl) rfl))) rfl) (vp_one (vp_chain .le .lt (hu65 hr) (vd_p vp_int) (vd_p (vp_ix (vd_var (pv 1)) (vd_p vp_int) (fun _ _ => rfl))) (vd_var (pv 2)) rfl))))))))))
abbrev st_right : Stmt := topS 8
abbrev N_right : List Str := ["table", "steps", "at", "step"]
theorem sc_right : FnScope N_right ["table", "steps"] (defScope st_right) := ⟨rfl, rfl, rfl, by decide +kernel, rfl, by decide +kernel, by decide +kernel⟩
theorem ok_right (F : Sits K mg "right" st_right ["table", "steps"]) (T : Txt K mg) (D_step_right : Def P w K mg base 2 3 "step_right" ["table", "step", "at"] S_step_right) : Def P w K mg base 3 2 "right" ["table", "steps"] S_right := by
  unfold S_right B_right
  exact def_ok F sc_right rfl rfl fun f cdv A outer s H E hr =>
  (vss_cons (vs_if (vt_not (vt_chain .le .le (hu65 hr) (vd_p vp_int) (vd_p (vp_len (T.no "len" rfl) (vd_var (pv 1)))) (vd_p vp_int) rfl)) (vss_one (vs_retP vp_bl)) vss_nil)
  (vss_one (vs_retP (vp_all rfl (T.no "all" rfl) (vd_o (vo_comp (own := [("at", 2), ("step", 3)]) (ts := [2, 3]) rfl sc_right.nd (vir_enum (T.no "enumerate" rfl) (vd_var (pv 1))) (blkOk_by (N := N_right) (sc := defScope st_right) (by decide +kernel)) (fun _ _ _ _ _ => (vg_tup rfl (vgs_cons (vg_name sc_right.nd rfl (by first | exact .inl rfl | exact .inr rfl) (by first | exact .inl rfl | exact .inr rfl)) (vgs_cons (vg_name sc_right.nd rfl (by first | exact .inl rfl | exact .inr rfl) (by first | exact .inl rfl | exact .inr rfl)) vgs_nil rfl) rfl) rfl rfl)) (fun _ _ _ _ _ => vts_nil) (fun _ _ _ _ _ => (vo_callD D_step_right hr (by decide) takes0 (van_cons (vp_var (pv 0)) (van_cons (vp_var (pv 3)) (van_cons (vp_var (pv 2)) van_nil rfl) rfl) rfl))) (by decide)))))))
abbrev st_check_steps : Stmt := topS 9
abbrev N_check_steps : List Str := ["table", "steps"]
theorem sc_check_steps : FnScope N_check_steps ["table", "steps"] (defScope st_check_steps) := ⟨rfl, rfl, rfl, by decide +kernel, rfl, by decide +kernel, by decide +kernel⟩
theorem ok_check_steps (F : Sits K mg "check_steps" st_check_steps ["table", "steps"]) (T : Txt K mg) (D_right : Def P w K mg base 3 2 "right" ["table", "steps"] S_right) : Def P w K mg base 4 2 "check_steps" ["table", "steps"] S_check_steps := by
  unfold S_check_steps B_check_steps
  exact def_ok F sc_check_steps rfl rfl fun f cdv A outer s H E hr =>
  (vss_one (vs_if (vt_not (vt_p (vp_o (vo_callD D_right hr (by decide) tk_body (van_cons (vp_var (pv 0)) (van_cons (vp_var (pv 1)) van_nil rfl) rfl))))) (vss_one (vs_raiseE T.e_BadSteps rfl tk_body)) vss_nil))
abbrev st_joined : Stmt := topS 12
abbrev N_joined : List Str := ["table", "step", "one", "two"]
theorem sc_joined : FnScope N_joined ["table", "step", "one", "two"] (defScope st_joined) := ⟨rfl, rfl, rfl, by decide +kernel, rfl, by decide +kernel, by decide +kernel⟩
theorem ok_joined (F : Sits K mg "joined" st_joined ["table", "step", "one", "two"]) (T : Txt K mg)  : Def P w K mg base 1 4 "joined" ["table", "step", "one", "two"] S_joined := by
  unfold S_joined B_joined
  exact def_ok F sc_joined rfl rfl fun f cdv A outer s H E hr =>
  (vss_cons (vs_if (vt_cmp .eq (hu65 hr) (vd_p (vp_ix (vd_var (pv 1)) (vd_p vp_int) (fun _ _ => rfl))) (vd_p vp_str) rfl) (vss_one (vs_retP (vp_mod (vd_o (vo_add (vd_var (pv 2)) (vd_var (pv 3)))) (vd_p (vp_fld T.f_Table_prime (vp_var (pv 0)) rfl))))) vss_nil)
  (vss_cons (vs_if (vt_cmp .eq (hu65 hr) (vd_p (vp_ix (vd_var (pv 1)) (vd_p vp_int) (fun _ _ => rfl))) (vd_p vp_str) rfl) (vss_one (vs_retP (vp_mod (vd_p (vp_sub (vd_var (pv 2)) (vd_var (pv 3)))) (vd_p (vp_fld T.f_Table_prime (vp_var (pv 0)) rfl))))) vss_nil)
  (vss_one (vs_retP (vp_mod (vd_o (vo_mul (vd_var (pv 2)) (vd_var (pv 3)))) (vd_p (vp_fld T.f_Table_prime (vp_var (pv 0)) rfl)))))))
abbrev st_plain : Stmt := topS 13
abbrev N_plain : List Str := ["table", "steps", "inputs", "taken", "found", "step"]
theorem sc_plain : FnScope N_plain ["table", "steps", "inputs"] (defScope st_plain) := ⟨rfl, rfl, rfl, by decide +kernel, rfl, by decide +kernel, by decide +kernel⟩
theorem ok_plain (F : Sits K mg "plain" st_plain ["table", "steps", "inputs"]) (T : Txt K mg) (D_check_inputs : Def P w K mg base 2 3 "check_inputs" ["table", "steps", "inputs"] S_check_inputs) (D_check_steps : Def P w K mg base 4 2 "check_steps" ["table", "steps"] S_check_steps) (D_joined : Def P w K mg base 1 4 "joined" ["table", "step", "one", "two"] S_joined) : Def P w K mg base 5 3 "plain" ["table", "steps", "inputs"] S_plain := by
  unfold S_plain B_plain
  exact def_ok F sc_plain rfl rfl fun f cdv A outer s H E hr =>
  (vss_cons (vs_drop (vo_callD D_check_steps hr (by decide) tk_body (van_cons (vp_var (pv 0)) (van_cons (vp_var (pv 1)) van_nil rfl) rfl)))
  (vss_cons (vs_drop (vo_callD D_check_inputs hr (by decide) tk_body (van_cons (vp_var (pv 0)) (van_cons (vp_var (pv 1)) (van_cons (vp_var (pv 2)) van_nil rfl) rfl) rfl)))
  (vss_cons (vs_setO (i := 3) sc_plain.nd rfl (by first | exact .inl rfl | exact .inr rfl) (vo_mul (vd_o (vo_lst (va_cons vp_int va_nil rfl))) (vd_o (vo_add (vd_p (vp_fld T.f_Table_hands (vp_var (pv 0)) rfl)) (vd_p vp_int)))) rfl (by first | exact .inl rfl | exact .inr rfl))
  (vss_cons (vs_setO (i := 4) sc_plain.nd rfl (by first | exact .inl rfl | exact .inr rfl) (vo_lst va_nil) rfl (by first | exact .inl rfl | exact .inr rfl))
  (vss_cons (vs_for po_body rfl (vif_list (vp_var (pv 1))) (vg_name sc_plain.nd rfl (by first | exact .inl rfl | exact .inr rfl) (by first | exact .inl rfl | exact .inr rfl))
  (vss_one (vs_if (vt_cmp .eq (hu65 hr) (vd_p (vp_ix (vd_var (pv 5)) (vd_p vp_int) (fun _ _ => rfl))) (vd_p vp_str) rfl) (vss_cons (vs_ex (ve_app (vpl_name (pv 4)) (vo_p (vp_ix (vd_p (vp_ix (vd_var (pv 2)) (vd_p (vp_sub (vd_p (vp_ix (vd_var (pv 5)) (vd_p vp_int) (fun _ _ => rfl))) (vd_p vp_int))) (fun _ _ => rfl))) (vd_p (vp_pl (vpl_ix (vpl_name (pv 3)) (vd_p (vp_ix (vd_var (pv 5)) (vd_p vp_int) (fun _ _ => rfl))) (fun _ _ => rfl)))) (fun _ _ => rfl)))))
  (vss_one (vs_setI (vpl_name (pv 3)) (vd_p (vp_ix (vd_var (pv 5)) (vd_p vp_int) (fun _ _ => rfl))) (vo_p (vp_o (vo_add (vd_p (vp_pl (vpl_ix (vpl_name (pv 3)) (vd_p (vp_ix (vd_var (pv 5)) (vd_p vp_int) (fun _ _ => rfl))) (fun _ _ => rfl)))) (vd_p vp_int)))) (fun _ => rfl) rfl rfl rfl))) (vss_one (vs_if (vt_cmp .eq (hu65 hr) (vd_p (vp_ix (vd_var (pv 5)) (vd_p vp_int) (fun _ _ => rfl))) (vd_p vp_str) rfl) (vss_one (vs_ex (ve_app (vpl_name (pv 4)) (vo_p (vp_ix (vd_var (pv 5)) (vd_p vp_int) (fun _ _ => rfl)))))) (vss_one (vs_if (vt_cmp .eq (hu65 hr) (vd_p (vp_ix (vd_var (pv 5)) (vd_p vp_int) (fun _ _ => rfl))) (vd_p vp_str) rfl) (vss_one (vs_ex (ve_app (vpl_name (pv 4)) (vo_p (vp_mod (vd_o (vo_mul (vd_p (vp_pl (vpl_ix (vpl_name (pv 4)) (vd_p (vp_ix (vd_var (pv 5)) (vd_p vp_int) (fun _ _ => rfl))) (fun _ _ => rfl)))) (vd_p (vp_ix (vd_var (pv 5)) (vd_p vp_int) (fun _ _ => rfl))))) (vd_p (vp_fld T.f_Table_prime (vp_var (pv 0)) rfl))))))) (vss_one (vs_if (vt_cmp .isin (hu65 hr) (vd_p (vp_ix (vd_var (pv 5)) (vd_p vp_int) (fun _ _ => rfl))) (vd_p (vp_tup (va_cons vp_str (va_cons vp_str va_nil rfl) rfl))) rfl) (vss_one (vs_ex (ve_app (vpl_name (pv 4)) (vo_p (vp_pl (vpl_ix (vpl_name (pv 4)) (vd_p (vp_ix (vd_var (pv 5)) (vd_p vp_int) (fun _ _ => rfl))) (fun _ _ => rfl))))))) (vss_one (vs_ex (ve_app (vpl_name (pv 4)) (vo_callD D_joined hr (by decide) tk_body (van_cons (vp_var (pv 0)) (van_cons (vp_var (pv 5)) (van_cons (vp_pl (vpl_ix (vpl_name (pv 4)) (vd_p (vp_ix (vd_var (pv 5)) (vd_p vp_int) (fun _ _ => rfl))) (fun _ _ => rfl))) (van_cons (vp_pl (vpl_ix (vpl_name (pv 4)) (vd_p (vp_ix (vd_var (pv 5)) (vd_p vp_int) (fun _ _ => rfl))) (fun _ _ => rfl))) van_nil rfl) rfl) rfl) rfl))))))))))))))
  (vss_one (vs_retV (pv 4))))))))
abbrev st__law_refused : Stmt := topS 30
abbrev N__law_refused : List Str := ["table", "steps", "inputs", "e"]
theorem sc__law_refused : FnScope N__law_refused ["table", "steps", "inputs"] (defScope st__law_refused) := ⟨rfl, rfl, rfl, by decide +kernel, rfl, by decide +kernel, by decide +kernel⟩
theorem ok__law_refused (F : Sits K mg "_law_refused" st__law_refused ["table", "steps", "inputs"]) (T : Txt K mg) (D_plain : Def P w K mg base 5 3 "plain" ["table", "steps", "inputs"] S_plain) : Def P w K mg base 6 3 "_law_refused" ["table", "steps", "inputs"] S__law_refused_v1 := by
  unfold S__law_refused_v1 B__law_refused_v1
  exact def_ok F sc__law_refused rfl rfl fun f cdv A outer s H E hr =>
  (vss_cons (vs_try (i := 3) T.exs (by decide) rfl rfl sc__law_refused.nd rfl rfl rfl (by decide) tk_body (fun W pn xe tk po => (vss_one (vs_drop (vo_callD D_plain hr (by decide) tk (van_cons (vp_var (pv 0)) (van_cons (vp_var (pv 1)) (van_cons (vp_var (pv 2)) van_nil rfl) rfl) rfl)))))
  (fun c D x oe pn hc mc hz hf => (vsx_ret (vpx_isE T.exs hc (by decide) mc hz hf (pv 3) (T.no "isinstance" rfl)))))
  (vss_one (vs_retP vp_bl)))
abbrev st__law_whole : Stmt := topS 20
abbrev N__law_whole : List Str := ["found"]
theorem sc__law_whole : FnScope N__law_whole ["found"] (defScope st__law_whole) := ⟨rfl, rfl, rfl, by decide +kernel, rfl, by decide +kernel, by decide +kernel⟩
theorem ok__law_whole (F : Sits K mg "_law_whole" st__law_whole ["found"]) (T : Txt K mg)  : Def P w K mg base 1 1 "_law_whole" ["found"] S__law_whole := by
  unfold S__law_whole B__law_whole
  exact def_ok F sc__law_whole rfl rfl fun f cdv A outer s H E hr =>
  (vss_one (vs_retP (vp_and (vp_isi .int boot_int (T.no "int" rfl) (T.no "isinstance" rfl) (vd_var (pv 0)) rfl (by decide) (by decide)) (vp_one (vp_not (vp_isi .bool boot_bool (T.no "bool" rfl) (T.no "isinstance" rfl) (vd_var (pv 0)) rfl (by decide) (by decide)))))))
abbrev st__law_row : Stmt := topS 22
abbrev N__law_row : List Str := ["found", "due", "one", "other"]
theorem sc__law_row : FnScope N__law_row ["found", "due"] (defScope st__law_row) := ⟨rfl, rfl, rfl, by decide +kernel, rfl, by decide +kernel, by decide +kernel⟩
theorem ok__law_row (F : Sits K mg "_law_row" st__law_row ["found", "due"]) (T : Txt K mg) (D__law_whole : Def P w K mg base 1 1 "_law_whole" ["found"] S__law_whole) : Def P w K mg base 2 2 "_law_row" ["found", "due"] S__law_row := by
  unfold S__law_row B__law_row
  exact def_ok F sc__law_row rfl rfl fun f cdv A outer s H E hr =>
  (vss_cons (vs_if (vt_w (vw_or (vt_not (vt_p (vp_isi .list boot_list (T.no "list" rfl) (T.no "isinstance" rfl) (vd_var (pv 0)) rfl (by decide) (by decide)))) (vw_or1 (vt_cmp .ne (hu65 hr) (vd_p (vp_len (T.no "len" rfl) (vd_var (pv 0)))) (vd_p (vp_len (T.no "len" rfl) (vd_var (pv 1)))) rfl)))) (vss_one (vs_retP vp_bl)) vss_nil)
  (vss_cons (vs_for po_body rfl (vif_zip (T.no "zip" rfl) (vp_var (pv 0)) (vp_var (pv 1))) (vg_tup rfl (vgs_cons (vg_name sc__law_row.nd rfl (by first | exact .inl rfl | exact .inr rfl) (by first | exact .inl rfl | exact .inr rfl)) (vgs_cons (vg_name sc__law_row.nd rfl (by first | exact .inl rfl | exact .inr rfl) (by first | exact .inl rfl | exact .inr rfl)) vgs_nil rfl) rfl) rfl rfl)
  (vss_one (vs_if (vt_w (vw_or (vt_not (vt_p (vp_o (vo_callD D__law_whole hr (by decide) tk_body (van_cons (vp_var (pv 2)) van_nil rfl))))) (vw_or1 (vt_cmp .ne (hu65 hr) (vd_var (pv 2)) (vd_var (pv 3)) rfl)))) (vss_one (vs_retP vp_bl)) vss_nil)))
  (vss_one (vs_retP vp_bl))))
abbrev st__law_spoilt : Stmt := topS 29
abbrev N__law_spoilt : List Str := ["inputs", "steps", "cell", "table", "found", "at", "taken", "numbers"]
theorem sc__law_spoilt : FnScope N__law_spoilt ["inputs", "steps", "cell", "table"] (defScope st__law_spoilt) := ⟨rfl, rfl, rfl, by decide +kernel, rfl, by decide +kernel, by decide +kernel⟩
theorem ok__law_spoilt (F : Sits K mg "_law_spoilt" st__law_spoilt ["inputs", "steps", "cell", "table"]) (T : Txt K mg) (D__law_used : Def P w K mg base 1 2 "_law_used" ["steps", "hand"] S__law_used) : Def P w K mg base 2 4 "_law_spoilt" ["inputs", "steps", "cell", "table"] S__law_spoilt := by
  unfold S__law_spoilt B__law_spoilt
  exact def_ok F sc__law_spoilt rfl rfl fun f cdv A outer s H E hr =>
  (vss_cons (vs_setLc (i := 4) (own := [("numbers", 7)]) (ts := [7]) rfl sc__law_spoilt.nd rfl rfl (sw_true rfl rfl rfl (by decide +kernel)) (vir_list (vd_var (pv 0))) (blkOk_by (N := N__law_spoilt) (sc := defScope st__law_spoilt) (by decide +kernel)) (fun _ _ _ _ _ => (vg_name sc__law_spoilt.nd rfl (by first | exact .inl rfl | exact .inr rfl) (by first | exact .inl rfl | exact .inr rfl))) (fun _ _ _ _ _ => vts_nil) (fun _ _ _ _ _ => (vo_list (T.no "list" rfl) (vd_var (pv 7)))) (by decide))
  (vss_cons (vs_set (i := 5) sc__law_spoilt.nd rfl (by first | exact .inl rfl | exact .inr rfl) (vp_mod (vd_p (vp_div (vd_var (pv 2)) (vd_p vp_int))) (vd_p (vp_fld T.f_Table_hands (vp_var (pv 3)) rfl))) rfl (by first | exact .inl rfl | exact .inr rfl))
  (vss_cons (vs_if (vt_cmp .eq (hu65 hr) (vd_p (vp_mod (vd_var (pv 2)) (vd_p vp_int))) (vd_p vp_int) rfl) (vss_frz (i := 4) (ps := []) (vss_one (vs_ret (vo_add (vd_o (vo_sl (vd_var (pv 4)) vi_none (vi_some (vd_var (pv 5))))) (vd_o (vo_sl (vd_var (pv 4)) (vi_some (vd_o (vo_add (vd_var (pv 5)) (vd_p vp_int)))) vi_none)))))) vss_nil)
  (vss_cons (vs_if (vt_cmp .eq (hu65 hr) (vd_p (vp_mod (vd_var (pv 2)) (vd_p vp_int))) (vd_p vp_int) rfl) (vss_frz (i := 4) (ps := []) (vss_one (vs_ret (vo_add (vd_o (vo_add (vd_o (vo_sl (vd_var (pv 4)) vi_none (vi_some (vd_var (pv 5))))) (vd_o (vo_lst (va_cons (vp_o (vo_lst va_nil)) va_nil rfl))))) (vd_o (vo_sl (vd_var (pv 4)) (vi_some (vd_var (pv 5))) vi_none)))))) vss_nil)
  (vss_cons (vs_set (i := 6) sc__law_spoilt.nd rfl (by first | exact .inl rfl | exact .inr rfl) (vp_o (vo_callD D__law_used hr (by decide) tk_body (van_cons (vp_var (pv 1)) (van_cons (vp_o (vo_add (vd_var (pv 5)) (vd_p vp_int))) van_nil rfl) rfl))) rfl (by first | exact .inl rfl | exact .inr rfl))
  (vss_cons (vs_if (vt_w (vw_and (vt_cmp .eq (hu65 hr) (vd_p (vp_mod (vd_var (pv 2)) (vd_p vp_int))) (vd_p vp_int) rfl) (vw_and1 (vt_cmp .gt (hu65 hr) (vd_var (pv 6)) (vd_p vp_int) rfl)))) (vss_cons (vs_setI (vpl_name (pv 4)) (vd_var (pv 5)) (vo_sl (vd_pl (vpl_ix (vpl_name (pv 4)) (vd_var (pv 5)) (fun _ _ => rfl))) vi_none (vi_some (vd_p (vp_sub (vd_var (pv 6)) (vd_p vp_int))))) (fun _ => rfl) rfl rfl rfl)
  (vss_one (vs_retV (pv 4)))) vss_nil)
  (vss_cons (vs_ex (ve_ins (vpl_ix (vpl_name (pv 4)) (vd_var (pv 5)) (fun _ _ => rfl)) (vd_p (vp_mod (vd_p (vp_div (vd_var (pv 2)) (vd_p vp_int))) (vd_o (vo_add (vd_p (vp_plen (T.no "len" rfl) (vpl_ix (vpl_name (pv 4)) (vd_var (pv 5)) (fun _ _ => rfl)))) (vd_p vp_int))))) (vp_ix (vd_o (vo_lst (va_cons (vp_neg (vd_p vp_int)) (va_cons (vp_fld T.f_Table_prime (vp_var (pv 3)) rfl) (va_cons (vp_o (vo_add (vd_p (vp_fld T.f_Table_prime (vp_var (pv 3)) rfl)) (vd_p vp_int))) va_nil rfl) rfl) rfl))) (vd_p (vp_mod (vd_p (vp_div (vd_var (pv 2)) (vd_p vp_int))) (vd_p vp_int))) (fun _ _ => rfl))))
  (vss_one (vs_retV (pv 4))))))))))
abbrev st__law_step_by : Stmt := topS 23
abbrev N__law_step_by : List Str := ["cell", "at", "table", "way", "hand", "one", "two", "number"]
theorem sc__law_step_by : FnScope N__law_step_by ["cell", "at", "table"] (defScope st__law_step_by) := ⟨rfl, rfl, rfl, by decide +kernel, rfl, by decide +kernel, by decide +kernel⟩
theorem ok__law_step_by (F : Sits K mg "_law_step_by" st__law_step_by ["cell", "at", "table"]) (T : Txt K mg) (D__law_mix : Def P w K mg base 1 3 "_law_mix" ["cell", "k", "many"] S__law_mix) : Def P w K mg base 2 3 "_law_step_by" ["cell", "at", "table"] S__law_step_by := by
  unfold S__law_step_by B__law_step_by
  exact def_ok F sc__law_step_by rfl rfl fun f cdv A outer s H E hr =>
  (vss_cons (vs_set (i := 3) sc__law_step_by.nd rfl (by first | exact .inl rfl | exact .inr rfl) (vp_o (vo_callD D__law_mix hr (by decide) tk_body (van_cons (vp_var (pv 0)) (van_cons vp_int (van_cons vp_int van_nil rfl) rfl) rfl))) rfl (by first | exact .inl rfl | exact .inr rfl))
  (vss_cons (vs_set (i := 4) sc__law_step_by.nd rfl (by first | exact .inl rfl | exact .inr rfl) (vp_o (vo_add (vd_p vp_int) (vd_o (vo_callD D__law_mix hr (by decide) tk_body (van_cons (vp_var (pv 0)) (van_cons vp_int (van_cons (vp_fld T.f_Table_hands (vp_var (pv 2)) rfl) van_nil rfl) rfl) rfl))))) rfl (by first | exact .inl rfl | exact .inr rfl))
  (vss_cons (vs_if (vt_w (vw_or (vt_cmp .eq (hu65 hr) (vd_var (pv 1)) (vd_p vp_int) rfl) (vw_or1 (vt_cmp .lt (hu65 hr) (vd_var (pv 3)) (vd_p vp_int) rfl)))) (vss_one (vs_retP (vp_tup (va_cons vp_str (va_cons (vp_var (pv 4)) va_nil rfl) rfl)))) vss_nil)
  (vss_cons (vs_set (i := 5) sc__law_step_by.nd rfl (by first | exact .inl rfl | exact .inr rfl) (vp_o (vo_callD D__law_mix hr (by decide) tk_body (van_cons (vp_var (pv 0)) (van_cons vp_int (van_cons (vp_var (pv 1)) van_nil rfl) rfl) rfl))) rfl (by first | exact .inl rfl | exact .inr rfl))
  (vss_cons (vs_set (i := 6) sc__law_step_by.nd rfl (by first | exact .inl rfl | exact .inr rfl) (vp_o (vo_callD D__law_mix hr (by decide) tk_body (van_cons (vp_var (pv 0)) (van_cons vp_int (van_cons (vp_var (pv 1)) van_nil rfl) rfl) rfl))) rfl (by first | exact .inl rfl | exact .inr rfl))
  (vss_cons (vs_set (i := 7) sc__law_step_by.nd rfl (by first | exact .inl rfl | exact .inr rfl) (vp_o (vo_callD D__law_mix hr (by decide) tk_body (van_cons (vp_var (pv 0)) (van_cons vp_int (van_cons (vp_fld T.f_Table_prime (vp_var (pv 2)) rfl) van_nil rfl) rfl) rfl))) rfl (by first | exact .inl rfl | exact .inr rfl))
  (vss_cons (vs_if (vt_cmp .eq (hu65 hr) (vd_var (pv 3)) (vd_p vp_int) rfl) (vss_one (vs_retP (vp_tup (va_cons vp_str (va_cons (vp_var (pv 7)) va_nil rfl) rfl)))) vss_nil)
  (vss_cons (vs_if (vt_cmp .eq (hu65 hr) (vd_var (pv 3)) (vd_p vp_int) rfl) (vss_one (vs_retP (vp_tup (va_cons vp_str (va_cons (vp_var (pv 5)) (va_cons (vp_var (pv 7)) va_nil rfl) rfl) rfl)))) vss_nil)
  (vss_cons (vs_if (vt_cmp .lt (hu65 hr) (vd_var (pv 3)) (vd_p vp_int) rfl) (vss_one (vs_retP (vp_tup (va_cons (vp_ix (vd_o (vo_lst (va_cons vp_str (va_cons vp_str va_nil rfl) rfl))) (vd_p (vp_sub (vd_var (pv 3)) (vd_p vp_int))) (fun _ _ => rfl)) (va_cons (vp_var (pv 5)) (va_cons (vp_var (pv 6)) va_nil rfl) rfl) rfl)))) vss_nil)
  (vss_cons (vs_if (vt_cmp .eq (hu65 hr) (vd_var (pv 3)) (vd_p vp_int) rfl) (vss_one (vs_retP (vp_tup (va_cons vp_str (va_cons (vp_var (pv 5)) (va_cons (vp_var (pv 6)) va_nil rfl) rfl) rfl)))) vss_nil)
  (vss_one (vs_retP (vp_tup (va_cons (vp_ix (vd_o (vo_lst (va_cons vp_str (va_cons vp_str va_nil rfl) rfl))) (vd_p (vp_sub (vd_var (pv 3)) (vd_p vp_int))) (fun _ _ => rfl)) (va_cons (vp_var (pv 5)) va_nil rfl) rfl))))))))))))))
abbrev st__law_steps_by : Stmt := topS 24
abbrev N__law_steps_by : List Str := ["script", "start", "many", "table", "k"]
theorem sc__law_steps_by : FnScope N__law_steps_by ["script", "start", "many", "table"] (defScope st__law_steps_by) := ⟨rfl, rfl, rfl, by decide +kernel, rfl, by decide +kernel, by decide +kernel⟩
theorem ok__law_steps_by (F : Sits K mg "_law_steps_by" st__law_steps_by ["script", "start", "many", "table"]) (T : Txt K mg) (D__law_cell_at : Def P w K mg base 1 2 "_law_cell_at" ["script", "k"] S__law_cell_at) (D__law_step_by : Def P w K mg base 2 3 "_law_step_by" ["cell", "at", "table"] S__law_step_by) : Def P w K mg base 3 4 "_law_steps_by" ["script", "start", "many", "table"] S__law_steps_by := by
  unfold S__law_steps_by B__law_steps_by
  exact def_ok F sc__law_steps_by rfl rfl fun f cdv A outer s H E hr =>
  (vss_one (vs_ret (vo_comp (own := [("k", 4)]) (ts := [4]) rfl sc__law_steps_by.nd (vif_vir (vif_rng1 (T.no "range" rfl) (vd_var (pv 2)))) (blkOk_by (N := N__law_steps_by) (sc := defScope st__law_steps_by) (by decide +kernel)) (fun _ _ _ _ _ => (vg_name sc__law_steps_by.nd rfl (by first | exact .inl rfl | exact .inr rfl) (by first | exact .inl rfl | exact .inr rfl))) (fun _ _ _ _ _ => vts_nil) (fun _ _ _ _ _ => (vo_callD D__law_step_by hr (by decide) takes0 (van_cons (vp_o (vo_callD D__law_cell_at hr (by decide) takes0 (van_cons (vp_var (pv 0)) (van_cons (vp_o (vo_add (vd_var (pv 1)) (vd_var (pv 4)))) van_nil rfl) rfl))) (van_cons (vp_var (pv 4)) (van_cons (vp_var (pv 3)) van_nil rfl) rfl) rfl))) (by decide))))
abbrev st__law_steps_refused : Stmt := topS 31
abbrev N__law_steps_refused : List Str := ["table", "steps", "inputs", "e"]
theorem sc__law_steps_refused : FnScope N__law_steps_refused ["table", "steps", "inputs"] (defScope st__law_steps_refused) := ⟨rfl, rfl, rfl, by decide +kernel, rfl, by decide +kernel, by decide +kernel⟩
theorem ok__law_steps_refused (F : Sits K mg "_law_steps_refused" st__law_steps_refused ["table", "steps", "inputs"]) (T : Txt K mg) (D_plain : Def P w K mg base 5 3 "plain" ["table", "steps", "inputs"] S_plain) : Def P w K mg base 6 3 "_law_steps_refused" ["table", "steps", "inputs"] S__law_steps_refused := by
  unfold S__law_steps_refused B__law_steps_refused
  exact def_ok F sc__law_steps_refused rfl rfl fun f cdv A outer s H E hr =>
  (vss_cons (vs_try (i := 3) T.exs (by decide) rfl rfl sc__law_steps_refused.nd rfl rfl rfl (by decide) tk_body (fun W pn xe tk po => (vss_one (vs_drop (vo_callD D_plain hr (by decide) tk (van_cons (vp_var (pv 0)) (van_cons (vp_var (pv 1)) (van_cons (vp_var (pv 2)) van_nil rfl) rfl) rfl)))))
  (fun c D x oe pn hc mc hz hf => (vsx_ret (vpx_and (vpx_isE T.exs hc (by decide) mc hz hf (pv 3) (T.no "isinstance" rfl)) (vpx_one (vpx_not (vpx_isE T.exs hc (by decide) mc hz hf (pv 3) (T.no "isinstance" rfl))))))))
  (vss_one (vs_retP vp_bl)))
abbrev st_Table___init__ : Stmt := inClass (topS 16) 0
abbrev N_Table___init__ : List Str := ["self", "prime", "hands", "few"]
theorem sc_Table___init__ : FnScope N_Table___init__ ["self", "prime", "hands", "few"] (defScope st_Table___init__) := ⟨rfl, rfl, rfl, by decide +kernel, rfl, by decide +kernel, by decide +kernel⟩
theorem ok_Table___init__ {f : Addr} (F : SitsM K "__init__" "Table.__init__" st_Table___init__ ["self", "prime", "hands", "few"] f) (T : Txt K mg)  : ∃ fd, FnOk P w K mg base (L2.CX P w) 1 f fd ["self", "prime", "hands", "few"] (spV K mg 4 S_Table___init__) ∧ Binds K fd ["self", "prime", "hands", "few"] [] := by
  unfold S_Table___init__ B_Table___init__
  exact meth_ok F sc_Table___init__ rfl rfl fun cdv A outer s H E hr =>
  (vss_cons (vs_if (vt_w (vw_or (vt_cmp .notin (hu65 hr) (vd_var (pv 1)) (vd_p (vp_gtup T.g_PRIMES)) rfl) (vw_or (vt_not (vt_chain .le .le (hu65 hr) (vd_p vp_int) (vd_var (pv 2)) (vd_p vp_int) rfl)) (vw_or1 (vt_cmp .ge (hu65 hr) (vd_var (pv 2)) (vd_var (pv 1)) rfl))))) (vss_one (vs_raiseE T.e_BadTable rfl tk_body)) vss_nil)
  (vss_cons (vs_if (vt_w (vw_or (vt_not (vt_chain .le .le (hu65 hr) (vd_p vp_int) (vd_var (pv 3)) (vd_p vp_int) rfl)) (vw_or1 (vt_cmp .ge (hu65 hr) (vd_o (vo_mul (vd_p vp_int) (vd_var (pv 3)))) (vd_var (pv 2)) rfl)))) (vss_one (vs_raiseE T.e_BadTable rfl tk_body)) vss_nil)
  (vss_cons (vs_setF T.f_Table_prime (pv 0) (vo_p (vp_var (pv 1))) rfl)
  (vss_cons (vs_setF T.f_Table_hands (pv 0) (vo_p (vp_var (pv 2))) rfl)
  (vss_one (vs_setF T.f_Table_few (pv 0) (vo_p (vp_var (pv 3))) rfl))))))
abbrev st__law_table_by : Stmt := topS 21
abbrev N__law_table_by : List Str := ["cell", "prime", "hands", "few"]
theorem sc__law_table_by : FnScope N__law_table_by ["cell"] (defScope st__law_table_by) := ⟨rfl, rfl, rfl, by decide +kernel, rfl, by decide +kernel, by decide +kernel⟩
theorem ok__law_table_by (F : Sits K mg "_law_table_by" st__law_table_by ["cell"]) (T : Txt K mg) (C_Table : ClsOk P w K mg base 1 (3 + 1) "Table" ["self", "prime", "hands", "few"] S_Table___init__) : Def P w K mg base 3 1 "_law_table_by" ["cell"] S__law_table_by := by
  unfold S__law_table_by B__law_table_by
  exact def_ok F sc__law_table_by rfl rfl fun f cdv A outer s H E hr =>
  (vss_cons (vs_set (i := 1) sc__law_table_by.nd rfl (by first | exact .inl rfl | exact .inr rfl) (vp_ix (vd_o (vo_lst (va_cons vp_int (va_cons vp_int (va_cons vp_int (va_cons vp_int (va_cons vp_int (va_cons vp_int (va_cons vp_int (va_cons vp_int (va_cons vp_int va_nil rfl) rfl) rfl) rfl) rfl) rfl) rfl) rfl) rfl))) (vd_p (vp_mod (vd_var (pv 0)) (vd_p vp_int))) (fun _ _ => rfl)) rfl (by first | exact .inl rfl | exact .inr rfl))
  (vss_cons (vs_set (i := 2) sc__law_table_by.nd rfl (by first | exact .inl rfl | exact .inr rfl) (vp_o (vo_add (vd_p vp_int) (vd_p (vp_mod (vd_p (vp_div (vd_var (pv 0)) (vd_p vp_int))) (vd_p (vp_sub (vd_p (vp_min rfl (T.no "min" rfl) (vd_p vp_int) (vd_p (vp_sub (vd_var (pv 1)) (vd_p vp_int))))) (vd_p vp_int))))))) rfl (by first | exact .inl rfl | exact .inr rfl))
  (vss_cons (vs_set (i := 3) sc__law_table_by.nd rfl (by first | exact .inl rfl | exact .inr rfl) vp_int rfl (by first | exact .inl rfl | exact .inr rfl))
  (vss_cons (vs_if (vt_w (vw_and (vt_cmp .gt (hu65 hr) (vd_var (pv 2)) (vd_p vp_int) rfl) (vw_and1 (vt_cmp .eq (hu65 hr) (vd_p (vp_mod (vd_p (vp_div (vd_var (pv 0)) (vd_p vp_int))) (vd_p vp_int))) (vd_p vp_int) rfl)))) (vss_one (vs_set (i := 3) sc__law_table_by.nd rfl (by first | exact .inl rfl | exact .inr rfl) vp_int rfl (by first | exact .inl rfl | exact .inr rfl))) vss_nil)
  (vss_one (vs_ret (vo_makeD C_Table hr (by decide) tk_body (van_cons (vp_var (pv 1)) (van_cons (vp_var (pv 2)) (van_cons (vp_var (pv 3)) van_nil rfl) rfl) rfl))))))))
abbrev st_law : Stmt := topS 32
abbrev N_law : List Str := ["script", "table", "steps", "inputs", "spoilt", "wrong", "handed", "kept", "found", "numbers"]
theorem sc_law : FnScope N_law ["script"] (defScope st_law) := ⟨rfl, rfl, rfl, by decide +kernel, rfl, by decide +kernel, by decide +kernel⟩
theorem ok_law {f : Addr} {fd : FuncData} (F : Fun K "law" "law" st_law f fd) (T : Txt K mg) (D__law_cell_at : Def P w K mg base 1 2 "_law_cell_at" ["script", "k"] S__law_cell_at) (D__law_inputs_by : Def P w K mg base 2 3 "_law_inputs_by" ["cell", "steps", "table"] S__law_inputs_by) (D__law_plain : Def P w K mg base 1 3 "_law_plain" ["prime", "steps", "inputs"] S__law_plain) (D__law_refused : Def P w K mg base 6 3 "_law_refused" ["table", "steps", "inputs"] S__law_refused_v1) (D__law_row : Def P w K mg base 2 2 "_law_row" ["found", "due"] S__law_row) (D__law_spoilt : Def P w K mg base 2 4 "_law_spoilt" ["inputs", "steps", "cell", "table"] S__law_spoilt) (D__law_steps_by : Def P w K mg base 3 4 "_law_steps_by" ["script", "start", "many", "table"] S__law_steps_by) (D__law_steps_refused : Def P w K mg base 6 3 "_law_steps_refused" ["table", "steps", "inputs"] S__law_steps_refused) (D__law_table_by : Def P w K mg base 3 1 "_law_table_by" ["cell"] S__law_table_by) (D_plain : Def P w K mg base 5 3 "plain" ["table", "steps", "inputs"] S_plain) : FnOk P w K mg base (L2.CX P w) 7 f fd ["script"] (spV K mg 1 S_law_v10) := by
  unfold S_law_v10 B_law_v10
  exact fn_ok F sc_law rfl rfl fun cdv A outer s H E hr =>
  (vss_cons (vs_set (i := 1) sc_law.nd rfl (by first | exact .inl rfl | exact .inr rfl) (vp_o (vo_callD D__law_table_by hr (by decide) tk_body (van_cons (vp_o (vo_callD D__law_cell_at hr (by decide) tk_body (van_cons (vp_var (pv 0)) (van_cons vp_int van_nil rfl) rfl))) van_nil rfl))) rfl (by first | exact .inl rfl | exact .inr rfl))
  (vss_cons (vs_set (i := 2) sc_law.nd rfl (by first | exact .inl rfl | exact .inr rfl) (vp_o (vo_callD D__law_steps_by hr (by decide) tk_body (van_cons (vp_var (pv 0)) (van_cons vp_int (van_cons (vp_o (vo_add (vd_p vp_int) (vd_p (vp_mod (vd_o (vo_callD D__law_cell_at hr (by decide) tk_body (van_cons (vp_var (pv 0)) (van_cons vp_int van_nil rfl) rfl))) (vd_p vp_int))))) (van_cons (vp_var (pv 1)) van_nil rfl) rfl) rfl) rfl))) rfl (by first | exact .inl rfl | exact .inr rfl))
  (vss_cons (vs_set (i := 3) sc_law.nd rfl (by first | exact .inl rfl | exact .inr rfl) (vp_o (vo_callD D__law_inputs_by hr (by decide) tk_body (van_cons (vp_o (vo_callD D__law_cell_at hr (by decide) tk_body (van_cons (vp_var (pv 0)) (van_cons vp_int van_nil rfl) rfl))) (van_cons (vp_var (pv 2)) (van_cons (vp_var (pv 1)) van_nil rfl) rfl) rfl))) rfl (by first | exact .inl rfl | exact .inr rfl))
  (vss_cons (vs_if (vt_cmp .eq (hu65 hr) (vd_p (vp_mod (vd_o (vo_callD D__law_cell_at hr (by decide) tk_body (van_cons (vp_var (pv 0)) (van_cons vp_int van_nil rfl) rfl))) (vd_p vp_int))) (vd_p vp_int) rfl) (vss_cons (vs_set (i := 4) sc_law.nd rfl (by first | exact .inl rfl | exact .inr rfl) (vp_o (vo_callD D__law_spoilt hr (by decide) tk_body (van_cons (vp_var (pv 3)) (van_cons (vp_var (pv 2)) (van_cons (vp_div (vd_o (vo_callD D__law_cell_at hr (by decide) tk_body (van_cons (vp_var (pv 0)) (van_cons vp_int van_nil rfl) rfl))) (vd_p vp_int)) (van_cons (vp_var (pv 1)) van_nil rfl) rfl) rfl) rfl))) rfl (by first | exact .inl rfl | exact .inr rfl))
  (vss_cons (vs_if (vt_not (vt_p (vp_o (vo_callD D__law_refused hr (by decide) tk_body (van_cons (vp_var (pv 1)) (van_cons (vp_var (pv 2)) (van_cons (vp_var (pv 4)) van_nil rfl) rfl) rfl))))) (vss_one (vs_retP vp_bl)) vss_nil)
  (vss_cons (vs_set (i := 5) sc_law.nd rfl (by first | exact .inl rfl | exact .inr rfl) (vp_ix (vd_o (vo_lst (va_cons (vp_o (vo_lst (va_cons (vp_tup (va_cons vp_str (va_cons vp_int va_nil rfl) rfl)) va_nil rfl))) (va_cons (vp_o (vo_lst (va_cons (vp_tup (va_cons vp_str (va_cons vp_int va_nil rfl) rfl)) (va_cons (vp_tup (va_cons vp_str (va_cons vp_int va_nil rfl) rfl)) va_nil rfl) rfl))) (va_cons (vp_o (vo_lst va_nil)) va_nil rfl) rfl) rfl))) (vd_p (vp_mod (vd_p (vp_div (vd_o (vo_callD D__law_cell_at hr (by decide) tk_body (van_cons (vp_var (pv 0)) (van_cons vp_int van_nil rfl) rfl))) (vd_p vp_int))) (vd_p vp_int))) (fun _ _ => rfl)) rfl (by first | exact .inl rfl | exact .inr rfl))
  (vss_one (vs_if (vt_w (vw_or (vt_not (vt_p (vp_o (vo_callD D__law_steps_refused hr (by decide) tk_body (van_cons (vp_var (pv 1)) (van_cons (vp_var (pv 5)) (van_cons (vp_var (pv 3)) van_nil rfl) rfl) rfl))))) (vw_or1 (vt_not (vt_p (vp_o (vo_callD D__law_steps_refused hr (by decide) tk_body (van_cons (vp_var (pv 1)) (van_cons (vp_var (pv 5)) (van_cons (vp_var (pv 4)) van_nil rfl) rfl) rfl)))))))) (vss_one (vs_retP vp_bl)) vss_nil))))) vss_nil)
  (vss_cons (vs_setLcF (i := 6) (own := [("numbers", 9)]) (ts := [9]) rfl sc_law.nd rfl rfl (sw_true rfl rfl rfl (by decide +kernel)) (vir_list (vd_var (pv 3))) (blkOk_by (N := N_law) (sc := defScope st_law) (by decide +kernel)) (fun _ _ _ _ _ => (vg_name sc_law.nd rfl (by first | exact .inl rfl | exact .inr rfl) (by first | exact .inl rfl | exact .inr rfl))) (fun _ _ _ _ _ => vts_nil) (fun _ _ _ _ _ => (vo_list (T.no "list" rfl) (vd_var (pv 9)))) (by decide))
  (vss_cons (vs_set (i := 7) sc_law.nd rfl (by first | exact .inl rfl | exact .inr rfl) (vp_o (vo_list (T.no "list" rfl) (vd_var (pv 2)))) rfl (by first | exact .inl rfl | exact .inr rfl))
  (vss_cons (vs_set (i := 8) sc_law.nd rfl (by first | exact .inl rfl | exact .inr rfl) (vp_o (vo_callD D_plain hr (by decide) tk_body (van_cons (vp_var (pv 1)) (van_cons (vp_var (pv 2)) (van_cons (vp_var (pv 6)) van_nil rfl) rfl) rfl))) rfl (by first | exact .inl rfl | exact .inr rfl))
  (vss_one (vs_retP (vp_and (vp_o (vo_callD D__law_row hr (by decide) tk_body (van_cons (vp_var (pv 8)) (van_cons (vp_o (vo_callD D__law_plain hr (by decide) tk_body (van_cons (vp_fld T.f_Table_prime (vp_var (pv 1)) rfl) (van_cons (vp_var (pv 2)) (van_cons (vp_var (pv 3)) van_nil rfl) rfl) rfl))) van_nil rfl) rfl))) (vp_and (vp_cmp .eq (hu65 hr) (vd_var (pv 6)) (vd_var (pv 3)) rfl) (vp_one (vp_cmp .eq (hu65 hr) (vd_var (pv 2)) (vd_var (pv 7)) rfl)))))))))))))
end
theorem all_mk {l : PySem.W.OpenLaw} {w : World} {K : PySem.W.Frag} {h : Heap} {mg : Str → Option Value} {fa CTable EBadInputs EBadSteps EBadTable EVeilError f1 f2 f3 f4 f5 f6 f7 f8 f9 f10 f11 f12 f13 f14 f15 f16 f17 f18 f19 f20 f21 f22 f23 gPRIMES : Addr} (X : K.In h) (G : h.Ns mainGlobals mg) (hfa : mg "law" = some (.ref fa))
    {od1 an1 od2 an2 od3 an3 od4 an4 od5 an5 od6 an6 od7 an7 od8 an8 od9 an9 od10 an10 od11 an11 od12 an12 od13 an13 od14 an14 od15 an15 od16 an16 od17 an17 od18 an18 od19 an19 od20 an20 od21 an21 od22 an22 od23 an23 : Option Addr} {sl1 sl2 sl3 sl4 sl5 sl6 sl7 sl8 sl9 sl10 sl11 sl12 sl13 sl14 sl15 sl16 sl17 sl18 sl19 sl20 sl21 sl22 sl23 : Array (Option Value)} {oc1 kV1 dc1 pm1 cd1 ct1 oc2 kV2 dc2 pm2 cd2 ct2 oc3 kV3 dc3 pm3 cd3 ct3 oc4 kV4 dc4 pm4 cd4 ct4 oc5 kV5 dc5 pm5 cd5 ct5 oc6 kV6 dc6 pm6 cd6 ct6 oc7 kV7 dc7 pm7 cd7 ct7 oc8 kV8 dc8 pm8 cd8 ct8 oc9 kV9 dc9 pm9 cd9 ct9 oc10 kV10 dc10 pm10 cd10 ct10 oc11 kV11 dc11 pm11 cd11 ct11 oc12 kV12 dc12 pm12 cd12 ct12 oc13 kV13 dc13 pm13 cd13 ct13 oc14 kV14 dc14 pm14 cd14 ct14 oc15 kV15 dc15 pm15 cd15 ct15 oc16 kV16 dc16 pm16 cd16 ct16 oc17 kV17 dc17 pm17 cd17 ct17 oc18 kV18 dc18 pm18 cd18 ct18 oc19 kV19 dc19 pm19 cd19 ct19 oc20 kV20 dc20 pm20 cd20 ct20 oc21 kV21 dc21 pm21 cd21 ct21 oc22 kV22 dc22 pm22 cd22 ct22 oc23 kV23 dc23 pm23 cd23 ct23 : Value} {odGPRIMES : Option Addr} {nGPRIMES : Nat} {slGPRIMES : Array (Option Value)} {tPRIMES0 tPRIMES1 tPRIMES2 tPRIMES3 tPRIMES4 tPRIMES5 tPRIMES6 tPRIMES7 tPRIMES8 : Tok}
    (a_Table : PySem.W.nsIn K mainGlobals "Table" = some (some (.ref CTable))) (pg_Table : PySem.W.plainGet K CTable Str.empty = true) (hd_Table : PySem.W.hasDictIn K CTable = true) (po_Table : PySem.W.plainOver K CTable = true)
    (sa_Table : PySem.W.findIn K (.ref CTable) "__setattr__" = some (some (.builtin "object.__setattr__"))) (mk_Table : PySem.W.makesIn K CTable = true) (kc_Table : PySem.W.keepIn K (.ref CTable) = true) (n_Table_few : PySem.W.findIn K (.ref CTable) "few" = some none)
    (n_Table_hands : PySem.W.findIn K (.ref CTable) "hands" = some none) (n_Table_prime : PySem.W.findIn K (.ref CTable) "prime" = some none) (a_BadInputs : PySem.W.nsIn K mainGlobals "BadInputs" = some (some (.ref EBadInputs))) (x_BadInputs : PySem.W.excIn K EBadInputs [.type "ValueError", .type "Exception", .type "BaseException", .type "object"] "ValueError.__new__" = true)
    (k_BadInputs : PySem.W.keepIn K (.ref EBadInputs) = true) (s_BadInputs : PySem.W.subIn K (.ref EBadInputs) (.type "BaseException") = some true) (t_BadInputs : PySem.W.typeIn K (.ref EBadInputs) = some (.type "type")) (a_BadSteps : PySem.W.nsIn K mainGlobals "BadSteps" = some (some (.ref EBadSteps)))
    (x_BadSteps : PySem.W.excIn K EBadSteps [.type "ValueError", .type "Exception", .type "BaseException", .type "object"] "ValueError.__new__" = true) (k_BadSteps : PySem.W.keepIn K (.ref EBadSteps) = true) (s_BadSteps : PySem.W.subIn K (.ref EBadSteps) (.type "BaseException") = some true) (t_BadSteps : PySem.W.typeIn K (.ref EBadSteps) = some (.type "type"))
    (a_BadTable : PySem.W.nsIn K mainGlobals "BadTable" = some (some (.ref EBadTable))) (x_BadTable : PySem.W.excIn K EBadTable [.type "ValueError", .type "Exception", .type "BaseException", .type "object"] "ValueError.__new__" = true) (k_BadTable : PySem.W.keepIn K (.ref EBadTable) = true) (s_BadTable : PySem.W.subIn K (.ref EBadTable) (.type "BaseException") = some true)
    (t_BadTable : PySem.W.typeIn K (.ref EBadTable) = some (.type "type")) (xn : PySem.W.specialIn K (.builtin "object.__class__") "__get__" = some (some (.builtin "getset_descriptor.__get__"))) (xt : PySem.W.takesIn K (.builtin "object.__class__") = some true) (a_VeilError : PySem.W.nsIn K mainGlobals "VeilError" = some (some (.ref EVeilError)))
    (s_VeilError : PySem.W.subIn K (.ref EVeilError) (.type "BaseException") = some true) (t_VeilError : PySem.W.typeIn K (.ref EVeilError) = some (.type "type")) (xg_VeilError : PySem.W.findIn K (.ref EVeilError) "__getattribute__" = some (some (.builtin "BaseException.__getattribute__"))) (xk_VeilError : PySem.W.findIn K (.ref EVeilError) "__getattr__" = some none)
    (xd_VeilError : PySem.W.hasDictIn K EVeilError = true) (xa_VeilError : PySem.W.findIn K (.ref EVeilError) "__class__" = some (some (.builtin "object.__class__"))) (xm_VeilError : PySem.W.mroIn K EVeilError (.type "object") = some true) (xv_VeilError : PySem.W.subIn K (.ref EVeilError) (.type "ValueError") = some true)
    (xe_VeilError_VeilError : PySem.W.subIn K (.ref EVeilError) (.ref EVeilError) = some true) (xe_VeilError_BadTable : PySem.W.subIn K (.ref EVeilError) (.ref EBadTable) = some false) (xe_VeilError_BadSteps : PySem.W.subIn K (.ref EVeilError) (.ref EBadSteps) = some false) (xe_VeilError_BadInputs : PySem.W.subIn K (.ref EVeilError) (.ref EBadInputs) = some false)
    (xg_BadTable : PySem.W.findIn K (.ref EBadTable) "__getattribute__" = some (some (.builtin "BaseException.__getattribute__"))) (xk_BadTable : PySem.W.findIn K (.ref EBadTable) "__getattr__" = some none) (xd_BadTable : PySem.W.hasDictIn K EBadTable = true) (xa_BadTable : PySem.W.findIn K (.ref EBadTable) "__class__" = some (some (.builtin "object.__class__")))
    (xm_BadTable : PySem.W.mroIn K EBadTable (.type "object") = some true) (xv_BadTable : PySem.W.subIn K (.ref EBadTable) (.type "ValueError") = some true) (xe_BadTable_VeilError : PySem.W.subIn K (.ref EBadTable) (.ref EVeilError) = some true) (xe_BadTable_BadTable : PySem.W.subIn K (.ref EBadTable) (.ref EBadTable) = some true)
    (xe_BadTable_BadSteps : PySem.W.subIn K (.ref EBadTable) (.ref EBadSteps) = some false) (xe_BadTable_BadInputs : PySem.W.subIn K (.ref EBadTable) (.ref EBadInputs) = some false) (xg_BadSteps : PySem.W.findIn K (.ref EBadSteps) "__getattribute__" = some (some (.builtin "BaseException.__getattribute__"))) (xk_BadSteps : PySem.W.findIn K (.ref EBadSteps) "__getattr__" = some none)
    (xd_BadSteps : PySem.W.hasDictIn K EBadSteps = true) (xa_BadSteps : PySem.W.findIn K (.ref EBadSteps) "__class__" = some (some (.builtin "object.__class__"))) (xm_BadSteps : PySem.W.mroIn K EBadSteps (.type "object") = some true) (xv_BadSteps : PySem.W.subIn K (.ref EBadSteps) (.type "ValueError") = some true)
    (xe_BadSteps_VeilError : PySem.W.subIn K (.ref EBadSteps) (.ref EVeilError) = some true) (xe_BadSteps_BadTable : PySem.W.subIn K (.ref EBadSteps) (.ref EBadTable) = some false) (xe_BadSteps_BadSteps : PySem.W.subIn K (.ref EBadSteps) (.ref EBadSteps) = some true) (xe_BadSteps_BadInputs : PySem.W.subIn K (.ref EBadSteps) (.ref EBadInputs) = some false)
    (xg_BadInputs : PySem.W.findIn K (.ref EBadInputs) "__getattribute__" = some (some (.builtin "BaseException.__getattribute__"))) (xk_BadInputs : PySem.W.findIn K (.ref EBadInputs) "__getattr__" = some none) (xd_BadInputs : PySem.W.hasDictIn K EBadInputs = true) (xa_BadInputs : PySem.W.findIn K (.ref EBadInputs) "__class__" = some (some (.builtin "object.__class__")))
    (xm_BadInputs : PySem.W.mroIn K EBadInputs (.type "object") = some true) (xv_BadInputs : PySem.W.subIn K (.ref EBadInputs) (.type "ValueError") = some true) (xe_BadInputs_VeilError : PySem.W.subIn K (.ref EBadInputs) (.ref EVeilError) = some true) (xe_BadInputs_BadTable : PySem.W.subIn K (.ref EBadInputs) (.ref EBadTable) = some false)
    (xe_BadInputs_BadSteps : PySem.W.subIn K (.ref EBadInputs) (.ref EBadSteps) = some false) (xe_BadInputs_BadInputs : PySem.W.subIn K (.ref EBadInputs) (.ref EBadInputs) = some true) (z_all : PySem.W.nsIn K mainGlobals "all" = some none) (z_bool : PySem.W.nsIn K mainGlobals "bool" = some none)
    (z_enumerate : PySem.W.nsIn K mainGlobals "enumerate" = some none) (z_int : PySem.W.nsIn K mainGlobals "int" = some none) (z_isinstance : PySem.W.nsIn K mainGlobals "isinstance" = some none) (z_len : PySem.W.nsIn K mainGlobals "len" = some none)
    (z_list : PySem.W.nsIn K mainGlobals "list" = some none) (z_min : PySem.W.nsIn K mainGlobals "min" = some none) (z_range : PySem.W.nsIn K mainGlobals "range" = some none) (z_zip : PySem.W.nsIn K mainGlobals "zip" = some none)
    (a_PRIMES : PySem.W.nsIn K mainGlobals "PRIMES" = some (some (.ref gPRIMES))) (l_PRIMES : K.lookup gPRIMES = some ⟨.type "tuple", odGPRIMES, .seq #[.int 5 tPRIMES0, .int 7 tPRIMES1, .int 11 tPRIMES2, .int 13 tPRIMES3, .int 17 tPRIMES4, .int 19 tPRIMES5, .int 23 tPRIMES6, .int 29 tPRIMES7, .int 31 tPRIMES8] nGPRIMES, slGPRIMES⟩) (a1 : PySem.W.nsIn K mainGlobals "_law_cell_at" = some (some (.ref f1))) (l1 : K.lookup f1 = some ⟨oc1, od1, .func (PySem.W.fnOf "_law_cell_at" "_law_cell_at" (defArgs st__law_cell_at) (defBody st__law_cell_at) (defScope st__law_cell_at) .none kV1 dc1 pm1 an1 cd1 ct1), sl1⟩)
    (c1 : PySem.W.codeIn K cd1 "_law_cell_at" = true) (k1 : PySem.W.keepIn K (.ref f1) = true) (a2 : PySem.W.nsIn K mainGlobals "_law_mix" = some (some (.ref f2))) (l2 : K.lookup f2 = some ⟨oc2, od2, .func (PySem.W.fnOf "_law_mix" "_law_mix" (defArgs st__law_mix) (defBody st__law_mix) (defScope st__law_mix) .none kV2 dc2 pm2 an2 cd2 ct2), sl2⟩)
    (c2 : PySem.W.codeIn K cd2 "_law_mix" = true) (k2 : PySem.W.keepIn K (.ref f2) = true) (a3 : PySem.W.nsIn K mainGlobals "_law_used" = some (some (.ref f3))) (l3 : K.lookup f3 = some ⟨oc3, od3, .func (PySem.W.fnOf "_law_used" "_law_used" (defArgs st__law_used) (defBody st__law_used) (defScope st__law_used) .none kV3 dc3 pm3 an3 cd3 ct3), sl3⟩)
    (c3 : PySem.W.codeIn K cd3 "_law_used" = true) (k3 : PySem.W.keepIn K (.ref f3) = true) (a4 : PySem.W.nsIn K mainGlobals "_law_inputs_by" = some (some (.ref f4))) (l4 : K.lookup f4 = some ⟨oc4, od4, .func (PySem.W.fnOf "_law_inputs_by" "_law_inputs_by" (defArgs st__law_inputs_by) (defBody st__law_inputs_by) (defScope st__law_inputs_by) .none kV4 dc4 pm4 an4 cd4 ct4), sl4⟩)
    (c4 : PySem.W.codeIn K cd4 "_law_inputs_by" = true) (k4 : PySem.W.keepIn K (.ref f4) = true) (a5 : PySem.W.nsIn K mainGlobals "_law_plain" = some (some (.ref f5))) (l5 : K.lookup f5 = some ⟨oc5, od5, .func (PySem.W.fnOf "_law_plain" "_law_plain" (defArgs st__law_plain) (defBody st__law_plain) (defScope st__law_plain) .none kV5 dc5 pm5 an5 cd5 ct5), sl5⟩)
    (c5 : PySem.W.codeIn K cd5 "_law_plain" = true) (k5 : PySem.W.keepIn K (.ref f5) = true) (a6 : PySem.W.nsIn K mainGlobals "is_number" = some (some (.ref f6))) (l6 : K.lookup f6 = some ⟨oc6, od6, .func (PySem.W.fnOf "is_number" "is_number" (defArgs st_is_number) (defBody st_is_number) (defScope st_is_number) .none kV6 dc6 pm6 an6 cd6 ct6), sl6⟩)
    (c6 : PySem.W.codeIn K cd6 "is_number" = true) (k6 : PySem.W.keepIn K (.ref f6) = true) (a7 : PySem.W.nsIn K mainGlobals "used" = some (some (.ref f7))) (l7 : K.lookup f7 = some ⟨oc7, od7, .func (PySem.W.fnOf "used" "used" (defArgs st_used) (defBody st_used) (defScope st_used) .none kV7 dc7 pm7 an7 cd7 ct7), sl7⟩)
    (c7 : PySem.W.codeIn K cd7 "used" = true) (k7 : PySem.W.keepIn K (.ref f7) = true) (a8 : PySem.W.nsIn K mainGlobals "check_inputs" = some (some (.ref f8))) (l8 : K.lookup f8 = some ⟨oc8, od8, .func (PySem.W.fnOf "check_inputs" "check_inputs" (defArgs st_check_inputs) (defBody st_check_inputs) (defScope st_check_inputs) .none kV8 dc8 pm8 an8 cd8 ct8), sl8⟩)
    (c8 : PySem.W.codeIn K cd8 "check_inputs" = true) (k8 : PySem.W.keepIn K (.ref f8) = true) (a9 : PySem.W.nsIn K mainGlobals "step_right" = some (some (.ref f9))) (l9 : K.lookup f9 = some ⟨oc9, od9, .func (PySem.W.fnOf "step_right" "step_right" (defArgs st_step_right) (defBody st_step_right) (defScope st_step_right) .none kV9 dc9 pm9 an9 cd9 ct9), sl9⟩)
    (c9 : PySem.W.codeIn K cd9 "step_right" = true) (k9 : PySem.W.keepIn K (.ref f9) = true) (a10 : PySem.W.nsIn K mainGlobals "right" = some (some (.ref f10))) (l10 : K.lookup f10 = some ⟨oc10, od10, .func (PySem.W.fnOf "right" "right" (defArgs st_right) (defBody st_right) (defScope st_right) .none kV10 dc10 pm10 an10 cd10 ct10), sl10⟩)
    (c10 : PySem.W.codeIn K cd10 "right" = true) (k10 : PySem.W.keepIn K (.ref f10) = true) (a11 : PySem.W.nsIn K mainGlobals "check_steps" = some (some (.ref f11))) (l11 : K.lookup f11 = some ⟨oc11, od11, .func (PySem.W.fnOf "check_steps" "check_steps" (defArgs st_check_steps) (defBody st_check_steps) (defScope st_check_steps) .none kV11 dc11 pm11 an11 cd11 ct11), sl11⟩)
    (c11 : PySem.W.codeIn K cd11 "check_steps" = true) (k11 : PySem.W.keepIn K (.ref f11) = true) (a12 : PySem.W.nsIn K mainGlobals "joined" = some (some (.ref f12))) (l12 : K.lookup f12 = some ⟨oc12, od12, .func (PySem.W.fnOf "joined" "joined" (defArgs st_joined) (defBody st_joined) (defScope st_joined) .none kV12 dc12 pm12 an12 cd12 ct12), sl12⟩)
    (c12 : PySem.W.codeIn K cd12 "joined" = true) (k12 : PySem.W.keepIn K (.ref f12) = true) (a13 : PySem.W.nsIn K mainGlobals "plain" = some (some (.ref f13))) (l13 : K.lookup f13 = some ⟨oc13, od13, .func (PySem.W.fnOf "plain" "plain" (defArgs st_plain) (defBody st_plain) (defScope st_plain) .none kV13 dc13 pm13 an13 cd13 ct13), sl13⟩)
    (c13 : PySem.W.codeIn K cd13 "plain" = true) (k13 : PySem.W.keepIn K (.ref f13) = true) (a14 : PySem.W.nsIn K mainGlobals "_law_refused" = some (some (.ref f14))) (l14 : K.lookup f14 = some ⟨oc14, od14, .func (PySem.W.fnOf "_law_refused" "_law_refused" (defArgs st__law_refused) (defBody st__law_refused) (defScope st__law_refused) .none kV14 dc14 pm14 an14 cd14 ct14), sl14⟩)
    (c14 : PySem.W.codeIn K cd14 "_law_refused" = true) (k14 : PySem.W.keepIn K (.ref f14) = true) (a15 : PySem.W.nsIn K mainGlobals "_law_whole" = some (some (.ref f15))) (l15 : K.lookup f15 = some ⟨oc15, od15, .func (PySem.W.fnOf "_law_whole" "_law_whole" (defArgs st__law_whole) (defBody st__law_whole) (defScope st__law_whole) .none kV15 dc15 pm15 an15 cd15 ct15), sl15⟩)
    (c15 : PySem.W.codeIn K cd15 "_law_whole" = true) (k15 : PySem.W.keepIn K (.ref f15) = true) (a16 : PySem.W.nsIn K mainGlobals "_law_row" = some (some (.ref f16))) (l16 : K.lookup f16 = some ⟨oc16, od16, .func (PySem.W.fnOf "_law_row" "_law_row" (defArgs st__law_row) (defBody st__law_row) (defScope st__law_row) .none kV16 dc16 pm16 an16 cd16 ct16), sl16⟩)
    (c16 : PySem.W.codeIn K cd16 "_law_row" = true) (k16 : PySem.W.keepIn K (.ref f16) = true) (a17 : PySem.W.nsIn K mainGlobals "_law_spoilt" = some (some (.ref f17))) (l17 : K.lookup f17 = some ⟨oc17, od17, .func (PySem.W.fnOf "_law_spoilt" "_law_spoilt" (defArgs st__law_spoilt) (defBody st__law_spoilt) (defScope st__law_spoilt) .none kV17 dc17 pm17 an17 cd17 ct17), sl17⟩)
    (c17 : PySem.W.codeIn K cd17 "_law_spoilt" = true) (k17 : PySem.W.keepIn K (.ref f17) = true) (a18 : PySem.W.nsIn K mainGlobals "_law_step_by" = some (some (.ref f18))) (l18 : K.lookup f18 = some ⟨oc18, od18, .func (PySem.W.fnOf "_law_step_by" "_law_step_by" (defArgs st__law_step_by) (defBody st__law_step_by) (defScope st__law_step_by) .none kV18 dc18 pm18 an18 cd18 ct18), sl18⟩)
    (c18 : PySem.W.codeIn K cd18 "_law_step_by" = true) (k18 : PySem.W.keepIn K (.ref f18) = true) (a19 : PySem.W.nsIn K mainGlobals "_law_steps_by" = some (some (.ref f19))) (l19 : K.lookup f19 = some ⟨oc19, od19, .func (PySem.W.fnOf "_law_steps_by" "_law_steps_by" (defArgs st__law_steps_by) (defBody st__law_steps_by) (defScope st__law_steps_by) .none kV19 dc19 pm19 an19 cd19 ct19), sl19⟩)
    (c19 : PySem.W.codeIn K cd19 "_law_steps_by" = true) (k19 : PySem.W.keepIn K (.ref f19) = true) (a20 : PySem.W.nsIn K mainGlobals "_law_steps_refused" = some (some (.ref f20))) (l20 : K.lookup f20 = some ⟨oc20, od20, .func (PySem.W.fnOf "_law_steps_refused" "_law_steps_refused" (defArgs st__law_steps_refused) (defBody st__law_steps_refused) (defScope st__law_steps_refused) .none kV20 dc20 pm20 an20 cd20 ct20), sl20⟩)
    (c20 : PySem.W.codeIn K cd20 "_law_steps_refused" = true) (k20 : PySem.W.keepIn K (.ref f20) = true) (a21 : PySem.W.findIn K (.ref CTable) "__init__" = some (some (.ref f21))) (i21 : PySem.W.isFn K (.ref f21) = true)
    (l21 : K.lookup f21 = some ⟨oc21, od21, .func (PySem.W.fnOf "__init__" "Table.__init__" (defArgs st_Table___init__) (defBody st_Table___init__) (defScope st_Table___init__) .none kV21 dc21 pm21 an21 cd21 ct21), sl21⟩) (c21 : PySem.W.codeIn K cd21 "Table.__init__" = true) (k21 : PySem.W.keepIn K (.ref f21) = true) (a22 : PySem.W.nsIn K mainGlobals "_law_table_by" = some (some (.ref f22)))
    (l22 : K.lookup f22 = some ⟨oc22, od22, .func (PySem.W.fnOf "_law_table_by" "_law_table_by" (defArgs st__law_table_by) (defBody st__law_table_by) (defScope st__law_table_by) .none kV22 dc22 pm22 an22 cd22 ct22), sl22⟩) (c22 : PySem.W.codeIn K cd22 "_law_table_by" = true) (k22 : PySem.W.keepIn K (.ref f22) = true) (a23 : PySem.W.nsIn K mainGlobals "law" = some (some (.ref f23)))
    (l23 : K.lookup f23 = some ⟨oc23, od23, .func (PySem.W.fnOf "law" "law" (defArgs st_law) (defBody st_law) (defScope st_law) .none kV23 dc23 pm23 an23 cd23 ct23), sl23⟩) (c23 : PySem.W.codeIn K cd23 "law" = true) (k23 : PySem.W.keepIn K (.ref f23) = true)
    : ∃ fd : FuncData, (∀ (s : Shared) (v : Value), BindsTo s fd ⟨[v], []⟩ [("script", v)]) ∧ ∀ base : Heap, K.In base → base.Ns mainGlobals mg → FnOk l.prog w K mg base (L2.CX l.prog w) 7 fa fd ["script"] (spLaw K) := by
  have e := hfa.symm.trans (PySem.W.mg_of X G a23)
  cases e
  have T : Txt K mg := {
    no := fun x h => by
      have m := List.mem_of_elem_eq_true h
      simp only [List.mem_cons, List.not_mem_nil, or_false] at m
      rcases m with rfl | rfl | rfl | rfl | rfl | rfl | rfl | rfl | rfl | rfl
      · exact PySem.W.mg_none_of X G z_all
      · exact PySem.W.mg_none_of X G z_bool
      · exact PySem.W.mg_none_of X G z_enumerate
      · exact PySem.W.mg_none_of X G z_int
      · exact PySem.W.mg_none_of X G z_isinstance
      · exact PySem.W.mg_none_of X G z_len
      · exact PySem.W.mg_none_of X G z_list
      · exact PySem.W.mg_none_of X G z_min
      · exact PySem.W.mg_none_of X G z_range
      · exact PySem.W.mg_none_of X G z_zip
    f_Table_few := fun C m => by
      have e := m.symm.trans (PySem.W.mg_of X G a_Table)
      cases e
      exact ⟨⟨pg_Table, hd_Table, po_Table, sa_Table⟩, n_Table_few⟩
    f_Table_hands := fun C m => by
      have e := m.symm.trans (PySem.W.mg_of X G a_Table)
      cases e
      exact ⟨⟨pg_Table, hd_Table, po_Table, sa_Table⟩, n_Table_hands⟩
    f_Table_prime := fun C m => by
      have e := m.symm.trans (PySem.W.mg_of X G a_Table)
      cases e
      exact ⟨⟨pg_Table, hd_Table, po_Table, sa_Table⟩, n_Table_prime⟩
    e_BadInputs := ⟨_, PySem.W.mg_of X G a_BadInputs, x_BadInputs, k_BadInputs, s_BadInputs, t_BadInputs⟩
    e_BadSteps := ⟨_, PySem.W.mg_of X G a_BadSteps, x_BadSteps, k_BadSteps, s_BadSteps, t_BadSteps⟩
    e_BadTable := ⟨_, PySem.W.mg_of X G a_BadTable, x_BadTable, k_BadTable, s_BadTable, t_BadTable⟩
    g_PRIMES := ⟨_, PySem.W.mg_of X G a_PRIMES, fun _ => .inr ⟨_, _, _, l_PRIMES, rfl, rfl, by show 9 ≤ sizeLine; rw [sizeLine_eq]; decide, .cons ⟨_, rfl⟩ (.cons ⟨_, rfl⟩ (.cons ⟨_, rfl⟩ (.cons ⟨_, rfl⟩ (.cons ⟨_, rfl⟩ (.cons ⟨_, rfl⟩ (.cons ⟨_, rfl⟩ (.cons ⟨_, rfl⟩ (.cons ⟨_, rfl⟩ .nil))))))))⟩⟩
    exs := ⟨fun c hc => by
      simp only [List.mem_cons, List.not_mem_nil, or_false] at hc
      rcases hc with rfl | rfl | rfl | rfl
      · refine ⟨EVeilError, PySem.W.mg_of X G a_VeilError, ⟨xg_VeilError, xk_VeilError, s_VeilError, xd_VeilError, xa_VeilError, xn, xt, xm_VeilError⟩, kit_val xv_VeilError, fun d hd D m => ?_⟩
        simp only [List.mem_cons, List.not_mem_nil, or_false] at hd
        rcases hd with rfl | rfl | rfl | rfl
        · cases m.symm.trans (PySem.W.mg_of X G a_VeilError)
          exact ⟨PySem.W.exm_ref s_VeilError xd_VeilError t_VeilError xe_VeilError_VeilError, kit_own xd_VeilError t_VeilError xe_VeilError_VeilError xe_VeilError_VeilError⟩
        · cases m.symm.trans (PySem.W.mg_of X G a_BadTable)
          exact ⟨PySem.W.exm_ref s_BadTable xd_BadTable t_BadTable xe_VeilError_BadTable, kit_own xd_BadTable t_BadTable xe_VeilError_BadTable xe_VeilError_VeilError⟩
        · cases m.symm.trans (PySem.W.mg_of X G a_BadSteps)
          exact ⟨PySem.W.exm_ref s_BadSteps xd_BadSteps t_BadSteps xe_VeilError_BadSteps, kit_own xd_BadSteps t_BadSteps xe_VeilError_BadSteps xe_VeilError_VeilError⟩
        · cases m.symm.trans (PySem.W.mg_of X G a_BadInputs)
          exact ⟨PySem.W.exm_ref s_BadInputs xd_BadInputs t_BadInputs xe_VeilError_BadInputs, kit_own xd_BadInputs t_BadInputs xe_VeilError_BadInputs xe_VeilError_VeilError⟩
      · refine ⟨EBadTable, PySem.W.mg_of X G a_BadTable, ⟨xg_BadTable, xk_BadTable, s_BadTable, xd_BadTable, xa_BadTable, xn, xt, xm_BadTable⟩, kit_val xv_BadTable, fun d hd D m => ?_⟩
        simp only [List.mem_cons, List.not_mem_nil, or_false] at hd
        rcases hd with rfl | rfl | rfl | rfl
        · cases m.symm.trans (PySem.W.mg_of X G a_VeilError)
          exact ⟨PySem.W.exm_ref s_VeilError xd_VeilError t_VeilError xe_BadTable_VeilError, kit_own xd_VeilError t_VeilError xe_BadTable_VeilError xe_BadTable_BadTable⟩
        · cases m.symm.trans (PySem.W.mg_of X G a_BadTable)
          exact ⟨PySem.W.exm_ref s_BadTable xd_BadTable t_BadTable xe_BadTable_BadTable, kit_own xd_BadTable t_BadTable xe_BadTable_BadTable xe_BadTable_BadTable⟩
        · cases m.symm.trans (PySem.W.mg_of X G a_BadSteps)
          exact ⟨PySem.W.exm_ref s_BadSteps xd_BadSteps t_BadSteps xe_BadTable_BadSteps, kit_own xd_BadSteps t_BadSteps xe_BadTable_BadSteps xe_BadTable_BadTable⟩
        · cases m.symm.trans (PySem.W.mg_of X G a_BadInputs)
          exact ⟨PySem.W.exm_ref s_BadInputs xd_BadInputs t_BadInputs xe_BadTable_BadInputs, kit_own xd_BadInputs t_BadInputs xe_BadTable_BadInputs xe_BadTable_BadTable⟩
      · refine ⟨EBadSteps, PySem.W.mg_of X G a_BadSteps, ⟨xg_BadSteps, xk_BadSteps, s_BadSteps, xd_BadSteps, xa_BadSteps, xn, xt, xm_BadSteps⟩, kit_val xv_BadSteps, fun d hd D m => ?_⟩
        simp only [List.mem_cons, List.not_mem_nil, or_false] at hd
        rcases hd with rfl | rfl | rfl | rfl
        · cases m.symm.trans (PySem.W.mg_of X G a_VeilError)
          exact ⟨PySem.W.exm_ref s_VeilError xd_VeilError t_VeilError xe_BadSteps_VeilError, kit_own xd_VeilError t_VeilError xe_BadSteps_VeilError xe_BadSteps_BadSteps⟩
        · cases m.symm.trans (PySem.W.mg_of X G a_BadTable)
          exact ⟨PySem.W.exm_ref s_BadTable xd_BadTable t_BadTable xe_BadSteps_BadTable, kit_own xd_BadTable t_BadTable xe_BadSteps_BadTable xe_BadSteps_BadSteps⟩
        · cases m.symm.trans (PySem.W.mg_of X G a_BadSteps)
          exact ⟨PySem.W.exm_ref s_BadSteps xd_BadSteps t_BadSteps xe_BadSteps_BadSteps, kit_own xd_BadSteps t_BadSteps xe_BadSteps_BadSteps xe_BadSteps_BadSteps⟩
        · cases m.symm.trans (PySem.W.mg_of X G a_BadInputs)
          exact ⟨PySem.W.exm_ref s_BadInputs xd_BadInputs t_BadInputs xe_BadSteps_BadInputs, kit_own xd_BadInputs t_BadInputs xe_BadSteps_BadInputs xe_BadSteps_BadSteps⟩
      · refine ⟨EBadInputs, PySem.W.mg_of X G a_BadInputs, ⟨xg_BadInputs, xk_BadInputs, s_BadInputs, xd_BadInputs, xa_BadInputs, xn, xt, xm_BadInputs⟩, kit_val xv_BadInputs, fun d hd D m => ?_⟩
        simp only [List.mem_cons, List.not_mem_nil, or_false] at hd
        rcases hd with rfl | rfl | rfl | rfl
        · cases m.symm.trans (PySem.W.mg_of X G a_VeilError)
          exact ⟨PySem.W.exm_ref s_VeilError xd_VeilError t_VeilError xe_BadInputs_VeilError, kit_own xd_VeilError t_VeilError xe_BadInputs_VeilError xe_BadInputs_BadInputs⟩
        · cases m.symm.trans (PySem.W.mg_of X G a_BadTable)
          exact ⟨PySem.W.exm_ref s_BadTable xd_BadTable t_BadTable xe_BadInputs_BadTable, kit_own xd_BadTable t_BadTable xe_BadInputs_BadTable xe_BadInputs_BadInputs⟩
        · cases m.symm.trans (PySem.W.mg_of X G a_BadSteps)
          exact ⟨PySem.W.exm_ref s_BadSteps xd_BadSteps t_BadSteps xe_BadInputs_BadSteps, kit_own xd_BadSteps t_BadSteps xe_BadInputs_BadSteps xe_BadInputs_BadInputs⟩
        · cases m.symm.trans (PySem.W.mg_of X G a_BadInputs)
          exact ⟨PySem.W.exm_ref s_BadInputs xd_BadInputs t_BadInputs xe_BadInputs_BadInputs, kit_own xd_BadInputs t_BadInputs xe_BadInputs_BadInputs xe_BadInputs_BadInputs⟩⟩ }
  have F1 := fun_mk (st := st__law_cell_at) l1 c1 k1
  have b1 := F1.binds (ps := ["script", "k"]) fun _ _ _ _ _ _ us hl => match us, hl with | [_, _], _ => rfl
  have s1 : Sits K mg "_law_cell_at" st__law_cell_at ["script", "k"] := ⟨_, _, F1, PySem.W.mg_of X G a1, b1⟩
  have F2 := fun_mk (st := st__law_mix) l2 c2 k2
  have b2 := F2.binds (ps := ["cell", "k", "many"]) fun _ _ _ _ _ _ us hl => match us, hl with | [_, _, _], _ => rfl
  have s2 : Sits K mg "_law_mix" st__law_mix ["cell", "k", "many"] := ⟨_, _, F2, PySem.W.mg_of X G a2, b2⟩
  have F3 := fun_mk (st := st__law_used) l3 c3 k3
  have b3 := F3.binds (ps := ["steps", "hand"]) fun _ _ _ _ _ _ us hl => match us, hl with | [_, _], _ => rfl
  have s3 : Sits K mg "_law_used" st__law_used ["steps", "hand"] := ⟨_, _, F3, PySem.W.mg_of X G a3, b3⟩
  have F4 := fun_mk (st := st__law_inputs_by) l4 c4 k4
  have b4 := F4.binds (ps := ["cell", "steps", "table"]) fun _ _ _ _ _ _ us hl => match us, hl with | [_, _, _], _ => rfl
  have s4 : Sits K mg "_law_inputs_by" st__law_inputs_by ["cell", "steps", "table"] := ⟨_, _, F4, PySem.W.mg_of X G a4, b4⟩
  have F5 := fun_mk (st := st__law_plain) l5 c5 k5
  have b5 := F5.binds (ps := ["prime", "steps", "inputs"]) fun _ _ _ _ _ _ us hl => match us, hl with | [_, _, _], _ => rfl
  have s5 : Sits K mg "_law_plain" st__law_plain ["prime", "steps", "inputs"] := ⟨_, _, F5, PySem.W.mg_of X G a5, b5⟩
  have F6 := fun_mk (st := st_is_number) l6 c6 k6
  have b6 := F6.binds (ps := ["table", "number"]) fun _ _ _ _ _ _ us hl => match us, hl with | [_, _], _ => rfl
  have s6 : Sits K mg "is_number" st_is_number ["table", "number"] := ⟨_, _, F6, PySem.W.mg_of X G a6, b6⟩
  have F7 := fun_mk (st := st_used) l7 c7 k7
  have b7 := F7.binds (ps := ["steps", "hand"]) fun _ _ _ _ _ _ us hl => match us, hl with | [_, _], _ => rfl
  have s7 : Sits K mg "used" st_used ["steps", "hand"] := ⟨_, _, F7, PySem.W.mg_of X G a7, b7⟩
  have F8 := fun_mk (st := st_check_inputs) l8 c8 k8
  have b8 := F8.binds (ps := ["table", "steps", "inputs"]) fun _ _ _ _ _ _ us hl => match us, hl with | [_, _, _], _ => rfl
  have s8 : Sits K mg "check_inputs" st_check_inputs ["table", "steps", "inputs"] := ⟨_, _, F8, PySem.W.mg_of X G a8, b8⟩
  have F9 := fun_mk (st := st_step_right) l9 c9 k9
  have b9 := F9.binds (ps := ["table", "step", "at"]) fun _ _ _ _ _ _ us hl => match us, hl with | [_, _, _], _ => rfl
  have s9 : Sits K mg "step_right" st_step_right ["table", "step", "at"] := ⟨_, _, F9, PySem.W.mg_of X G a9, b9⟩
  have F10 := fun_mk (st := st_right) l10 c10 k10
  have b10 := F10.binds (ps := ["table", "steps"]) fun _ _ _ _ _ _ us hl => match us, hl with | [_, _], _ => rfl
  have s10 : Sits K mg "right" st_right ["table", "steps"] := ⟨_, _, F10, PySem.W.mg_of X G a10, b10⟩
  have F11 := fun_mk (st := st_check_steps) l11 c11 k11
  have b11 := F11.binds (ps := ["table", "steps"]) fun _ _ _ _ _ _ us hl => match us, hl with | [_, _], _ => rfl
  have s11 : Sits K mg "check_steps" st_check_steps ["table", "steps"] := ⟨_, _, F11, PySem.W.mg_of X G a11, b11⟩
  have F12 := fun_mk (st := st_joined) l12 c12 k12
  have b12 := F12.binds (ps := ["table", "step", "one", "two"]) fun _ _ _ _ _ _ us hl => match us, hl with | [_, _, _, _], _ => rfl
  have s12 : Sits K mg "joined" st_joined ["table", "step", "one", "two"] := ⟨_, _, F12, PySem.W.mg_of X G a12, b12⟩
  have F13 := fun_mk (st := st_plain) l13 c13 k13
  have b13 := F13.binds (ps := ["table", "steps", "inputs"]) fun _ _ _ _ _ _ us hl => match us, hl with | [_, _, _], _ => rfl
  have s13 : Sits K mg "plain" st_plain ["table", "steps", "inputs"] := ⟨_, _, F13, PySem.W.mg_of X G a13, b13⟩
  have F14 := fun_mk (st := st__law_refused) l14 c14 k14
  have b14 := F14.binds (ps := ["table", "steps", "inputs"]) fun _ _ _ _ _ _ us hl => match us, hl with | [_, _, _], _ => rfl
  have s14 : Sits K mg "_law_refused" st__law_refused ["table", "steps", "inputs"] := ⟨_, _, F14, PySem.W.mg_of X G a14, b14⟩
  have F15 := fun_mk (st := st__law_whole) l15 c15 k15
  have b15 := F15.binds (ps := ["found"]) fun _ _ _ _ _ _ us hl => match us, hl with | [_], _ => rfl
  have s15 : Sits K mg "_law_whole" st__law_whole ["found"] := ⟨_, _, F15, PySem.W.mg_of X G a15, b15⟩
  have F16 := fun_mk (st := st__law_row) l16 c16 k16
  have b16 := F16.binds (ps := ["found", "due"]) fun _ _ _ _ _ _ us hl => match us, hl with | [_, _], _ => rfl
  have s16 : Sits K mg "_law_row" st__law_row ["found", "due"] := ⟨_, _, F16, PySem.W.mg_of X G a16, b16⟩
  have F17 := fun_mk (st := st__law_spoilt) l17 c17 k17
  have b17 := F17.binds (ps := ["inputs", "steps", "cell", "table"]) fun _ _ _ _ _ _ us hl => match us, hl with | [_, _, _, _], _ => rfl
  have s17 : Sits K mg "_law_spoilt" st__law_spoilt ["inputs", "steps", "cell", "table"] := ⟨_, _, F17, PySem.W.mg_of X G a17, b17⟩
  have F18 := fun_mk (st := st__law_step_by) l18 c18 k18
  have b18 := F18.binds (ps := ["cell", "at", "table"]) fun _ _ _ _ _ _ us hl => match us, hl with | [_, _, _], _ => rfl
  have s18 : Sits K mg "_law_step_by" st__law_step_by ["cell", "at", "table"] := ⟨_, _, F18, PySem.W.mg_of X G a18, b18⟩
  have F19 := fun_mk (st := st__law_steps_by) l19 c19 k19
  have b19 := F19.binds (ps := ["script", "start", "many", "table"]) fun _ _ _ _ _ _ us hl => match us, hl with | [_, _, _, _], _ => rfl
  have s19 : Sits K mg "_law_steps_by" st__law_steps_by ["script", "start", "many", "table"] := ⟨_, _, F19, PySem.W.mg_of X G a19, b19⟩
  have F20 := fun_mk (st := st__law_steps_refused) l20 c20 k20
  have b20 := F20.binds (ps := ["table", "steps", "inputs"]) fun _ _ _ _ _ _ us hl => match us, hl with | [_, _, _], _ => rfl
  have s20 : Sits K mg "_law_steps_refused" st__law_steps_refused ["table", "steps", "inputs"] := ⟨_, _, F20, PySem.W.mg_of X G a20, b20⟩
  have F21 := fun_mk (st := st_Table___init__) l21 c21 k21
  have b21 := F21.binds (ps := ["self", "prime", "hands", "few"]) fun _ _ _ _ _ _ us hl => match us, hl with | [_, _, _, _], _ => rfl
  have s21 : SitsM K "__init__" "Table.__init__" st_Table___init__ ["self", "prime", "hands", "few"] f21 := ⟨_, F21, b21⟩
  have F22 := fun_mk (st := st__law_table_by) l22 c22 k22
  have b22 := F22.binds (ps := ["cell"]) fun _ _ _ _ _ _ us hl => match us, hl with | [_], _ => rfl
  have s22 : Sits K mg "_law_table_by" st__law_table_by ["cell"] := ⟨_, _, F22, PySem.W.mg_of X G a22, b22⟩
  have F23 := fun_mk (st := st_law) l23 c23 k23
  refine ⟨PySem.W.fnOf "law" "law" (defArgs st_law) (defBody st_law) (defScope st_law) .none kV23 dc23 pm23 an23 cd23 ct23, fun s v => .of_eq rfl, fun base _ _ => ?_⟩
  have D__law_cell_at := ok__law_cell_at (P := l.prog) (w := w) (base := base) s1 T 
  have D__law_mix := ok__law_mix (P := l.prog) (w := w) (base := base) s2 T 
  have D__law_used := ok__law_used (P := l.prog) (w := w) (base := base) s3 T 
  have D__law_inputs_by := ok__law_inputs_by (P := l.prog) (w := w) (base := base) s4 T D__law_mix D__law_used
  have D__law_plain := ok__law_plain (P := l.prog) (w := w) (base := base) s5 T 
  have D_is_number := ok_is_number (P := l.prog) (w := w) (base := base) s6 T 
  have D_used := ok_used (P := l.prog) (w := w) (base := base) s7 T 
  have D_check_inputs := ok_check_inputs (P := l.prog) (w := w) (base := base) s8 T D_is_number D_used
  have D_step_right := ok_step_right (P := l.prog) (w := w) (base := base) s9 T D_is_number
  have D_right := ok_right (P := l.prog) (w := w) (base := base) s10 T D_step_right
  have D_check_steps := ok_check_steps (P := l.prog) (w := w) (base := base) s11 T D_right
  have D_joined := ok_joined (P := l.prog) (w := w) (base := base) s12 T 
  have D_plain := ok_plain (P := l.prog) (w := w) (base := base) s13 T D_check_inputs D_check_steps D_joined
  have D__law_refused := ok__law_refused (P := l.prog) (w := w) (base := base) s14 T D_plain
  have D__law_whole := ok__law_whole (P := l.prog) (w := w) (base := base) s15 T 
  have D__law_row := ok__law_row (P := l.prog) (w := w) (base := base) s16 T D__law_whole
  have D__law_spoilt := ok__law_spoilt (P := l.prog) (w := w) (base := base) s17 T D__law_used
  have D__law_step_by := ok__law_step_by (P := l.prog) (w := w) (base := base) s18 T D__law_mix
  have D__law_steps_by := ok__law_steps_by (P := l.prog) (w := w) (base := base) s19 T D__law_cell_at D__law_step_by
  have D__law_steps_refused := ok__law_steps_refused (P := l.prog) (w := w) (base := base) s20 T D_plain
  obtain ⟨fm21, G21, bm21⟩ := ok_Table___init__ (P := l.prog) (w := w) (base := base) s21 T 
  have C_Table : ClsOk l.prog w K mg base 1 (3 + 1) "Table" ["self", "prime", "hands", "few"] S_Table___init__ := ⟨_, _, _, ⟨mk_Table, a21, i21, kc_Table⟩, G21, PySem.W.mg_of X G a_Table, bm21⟩
  have D__law_table_by := ok__law_table_by (P := l.prog) (w := w) (base := base) s22 T C_Table
  exact law_ok (ok_law F23 T D__law_cell_at D__law_inputs_by D__law_plain D__law_refused D__law_row D__law_spoilt D__law_steps_by D__law_steps_refused D__law_table_by D_plain) VL.law11
end K11
open PySem PySem.W PyProof.Rows
set_option maxRecDepth 100000 in
set_option maxHeartbeats 0 in
theorem PySem.Challenge.cw_veilsum_k11_plain_reckonings_holds : PySem.Challenge.rw_veilsum_k11_plain_reckonings.Holds := by
  w_on; o_law; k_head; (case hw => w_witness2)
  k_fill
  refine L2.walk_of (l := PySem.Challenge.rw_veilsum_k11_plain_reckonings) (n := 63) (k := 7) (x := "script") (CX := fun w => L2.CX PySem.Challenge.rw_veilsum_k11_plain_reckonings.prog w) (sp := fun w => VL.spLaw _) rfl (by decide) rfl ⟨rfl, by decide, by decide⟩ (fun w h Y => PySem.W.kIn_of Y) ?F (fun _ _ a ns hl _ hS => ⟨a, ns, rfl, hS, hl, fun _ => rfl⟩) (fun _ _ _ _ _ h => by obtain ⟨_, _, _, _, _, _, _, _, _, _, _, _, z⟩ := h; exact z.elim)
  case F =>
    intro w mg fa h KX G hmg
    refine' K11.all_mk KX G hmg ?a_Table ?pg_Table ?hd_Table ?po_Table ?sa_Table ?mk_Table ?kc_Table ?n_Table_few ?n_Table_hands ?n_Table_prime ?a_BadInputs ?x_BadInputs ?k_BadInputs ?s_BadInputs ?t_BadInputs ?a_BadSteps ?x_BadSteps ?k_BadSteps ?s_BadSteps ?t_BadSteps ?a_BadTable ?x_BadTable ?k_BadTable ?s_BadTable ?t_BadTable ?xn ?xt ?a_VeilError ?s_VeilError ?t_VeilError ?xg_VeilError ?xk_VeilError ?xd_VeilError ?xa_VeilError ?xm_VeilError ?xv_VeilError ?xe_VeilError_VeilError ?xe_VeilError_BadTable ?xe_VeilError_BadSteps ?xe_VeilError_BadInputs ?xg_BadTable ?xk_BadTable ?xd_BadTable ?xa_BadTable ?xm_BadTable ?xv_BadTable ?xe_BadTable_VeilError ?xe_BadTable_BadTable ?xe_BadTable_BadSteps ?xe_BadTable_BadInputs ?xg_BadSteps ?xk_BadSteps ?xd_BadSteps ?xa_BadSteps ?xm_BadSteps ?xv_BadSteps ?xe_BadSteps_VeilError ?xe_BadSteps_BadTable ?xe_BadSteps_BadSteps ?xe_BadSteps_BadInputs ?xg_BadInputs ?xk_BadInputs ?xd_BadInputs ?xa_BadInputs ?xm_BadInputs ?xv_BadInputs ?xe_BadInputs_VeilError ?xe_BadInputs_BadTable ?xe_BadInputs_BadSteps ?xe_BadInputs_BadInputs ?z_all ?z_bool ?z_enumerate ?z_int ?z_isinstance ?z_len ?z_list ?z_min ?z_range ?z_zip ?a_PRIMES ?l_PRIMES ?a1 ?l1 ?c1 ?k1 ?a2 ?l2 ?c2 ?k2 ?a3 ?l3 ?c3 ?k3 ?a4 ?l4 ?c4 ?k4 ?a5 ?l5 ?c5 ?k5 ?a6 ?l6 ?c6 ?k6 ?a7 ?l7 ?c7 ?k7 ?a8 ?l8 ?c8 ?k8 ?a9 ?l9 ?c9 ?k9 ?a10 ?l10 ?c10 ?k10 ?a11 ?l11 ?c11 ?k11 ?a12 ?l12 ?c12 ?k12 ?a13 ?l13 ?c13 ?k13 ?a14 ?l14 ?c14 ?k14 ?a15 ?l15 ?c15 ?k15 ?a16 ?l16 ?c16 ?k16 ?a17 ?l17 ?c17 ?k17 ?a18 ?l18 ?c18 ?k18 ?a19 ?l19 ?c19 ?k19 ?a20 ?l20 ?c20 ?k20 ?a21 ?i21 ?l21 ?c21 ?k21 ?a22 ?l22 ?c22 ?k22 ?a23 ?l23 ?c23 ?k23
    (case a_Table => k_is)
    (case pg_Table => k_is)
    (case hd_Table => k_is)
    (case po_Table => k_is)
    (case sa_Table => k_is)
    (case mk_Table => k_is)
    (case kc_Table => k_is)
    (case n_Table_few => k_is)
    (case n_Table_hands => k_is)
    (case n_Table_prime => k_is)
    (case a_BadInputs => k_is)
    (case x_BadInputs => k_exc)
    (case k_BadInputs => k_is)
    (case s_BadInputs => k_is)
    (case t_BadInputs => k_is)
    (case a_BadSteps => k_is)
    (case x_BadSteps => k_exc)
    (case k_BadSteps => k_is)
    (case s_BadSteps => k_is)
    (case t_BadSteps => k_is)
    (case a_BadTable => k_is)
    (case x_BadTable => k_exc)
    (case k_BadTable => k_is)
    (case s_BadTable => k_is)
    (case t_BadTable => k_is)
    (case xn => k_is)
    (case xt => k_is)
    (case a_VeilError => k_is)
    (case s_VeilError => k_is)
    (case t_VeilError => k_is)
    (case xg_VeilError => k_is)
    (case xk_VeilError => k_is)
    (case xd_VeilError => k_is)
    (case xa_VeilError => k_is)
    (case xm_VeilError => k_is)
    (case xv_VeilError => k_is)
    (case xe_VeilError_VeilError => k_is)
    (case xe_VeilError_BadTable => k_is)
    (case xe_VeilError_BadSteps => k_is)
    (case xe_VeilError_BadInputs => k_is)
    (case xg_BadTable => k_is)
    (case xk_BadTable => k_is)
    (case xd_BadTable => k_is)
    (case xa_BadTable => k_is)
    (case xm_BadTable => k_is)
    (case xv_BadTable => k_is)
    (case xe_BadTable_VeilError => k_is)
    (case xe_BadTable_BadTable => k_is)
    (case xe_BadTable_BadSteps => k_is)
    (case xe_BadTable_BadInputs => k_is)
    (case xg_BadSteps => k_is)
    (case xk_BadSteps => k_is)
    (case xd_BadSteps => k_is)
    (case xa_BadSteps => k_is)
    (case xm_BadSteps => k_is)
    (case xv_BadSteps => k_is)
    (case xe_BadSteps_VeilError => k_is)
    (case xe_BadSteps_BadTable => k_is)
    (case xe_BadSteps_BadSteps => k_is)
    (case xe_BadSteps_BadInputs => k_is)
    (case xg_BadInputs => k_is)
    (case xk_BadInputs => k_is)
    (case xd_BadInputs => k_is)
    (case xa_BadInputs => k_is)
    (case xm_BadInputs => k_is)
    (case xv_BadInputs => k_is)
    (case xe_BadInputs_VeilError => k_is)
    (case xe_BadInputs_BadTable => k_is)
    (case xe_BadInputs_BadSteps => k_is)
    (case xe_BadInputs_BadInputs => k_is)
    (case z_all => k_is)
    (case z_bool => k_is)
    (case z_enumerate => k_is)
    (case z_int => k_is)
    (case z_isinstance => k_is)
    (case z_len => k_is)
    (case z_list => k_is)
    (case z_min => k_is)
    (case z_range => k_is)
    (case z_zip => k_is)
    (case a_PRIMES => k_is)
    (case l_PRIMES => k_is)
    (case a1 => k_is)
    (case l1 => k_is)
    (case c1 => k_is)
    (case k1 => k_is)
    (case a2 => k_is)
    (case l2 => k_is)
    (case c2 => k_is)
    (case k2 => k_is)
    (case a3 => k_is)
    (case l3 => k_is)
    (case c3 => k_is)
    (case k3 => k_is)
    (case a4 => k_is)
    (case l4 => k_is)
    (case c4 => k_is)
    (case k4 => k_is)
    (case a5 => k_is)
    (case l5 => k_is)
    (case c5 => k_is)
    (case k5 => k_is)
    (case a6 => k_is)
    (case l6 => k_is)
    (case c6 => k_is)
    (case k6 => k_is)
    (case a7 => k_is)
    (case l7 => k_is)
    (case c7 => k_is)
    (case k7 => k_is)
    (case a8 => k_is)
    (case l8 => k_is)
    (case c8 => k_is)
    (case k8 => k_is)
    (case a9 => k_is)
    (case l9 => k_is)
    (case c9 => k_is)
    (case k9 => k_is)
    (case a10 => k_is)
    (case l10 => k_is)
    (case c10 => k_is)
    (case k10 => k_is)
    (case a11 => k_is)
    (case l11 => k_is)
    (case c11 => k_is)
    (case k11 => k_is)
    (case a12 => k_is)
    (case l12 => k_is)
    (case c12 => k_is)
    (case k12 => k_is)
    (case a13 => k_is)
    (case l13 => k_is)
    (case c13 => k_is)
    (case k13 => k_is)
    (case a14 => k_is)
    (case l14 => k_is)
    (case c14 => k_is)
    (case k14 => k_is)
    (case a15 => k_is)
    (case l15 => k_is)
    (case c15 => k_is)
    (case k15 => k_is)
    (case a16 => k_is)
    (case l16 => k_is)
    (case c16 => k_is)
    (case k16 => k_is)
    (case a17 => k_is)
    (case l17 => k_is)
    (case c17 => k_is)
    (case k17 => k_is)
    (case a18 => k_is)
    (case l18 => k_is)
    (case c18 => k_is)
    (case k18 => k_is)
    (case a19 => k_is)
    (case l19 => k_is)
    (case c19 => k_is)
    (case k19 => k_is)
    (case a20 => k_is)
    (case l20 => k_is)
    (case c20 => k_is)
    (case k20 => k_is)
    (case a21 => k_is)
    (case i21 => k_is)
    (case l21 => k_is)
    (case c21 => k_is)
    (case k21 => k_is)
    (case a22 => k_is)
    (case l22 => k_is)
    (case c22 => k_is)
    (case k22 => k_is)
    (case a23 => k_is)
    (case l23 => k_is)
    (case c23 => k_is)
    (case k23 => k_is)
