import PyProof.Rows.All
import Wide.All
import OpenK.AllK
import Wide.FinOn
import HandS.ForMost
import HandS.ForExc
import HandS.Deep
import HandS.Zip
import HandS.SortInts
import HandS.SetFor
import HandS.IsInst
import HandS.ExcIs
import HandS.HotCalls
import HandS.TupAny
import HandS.Conv
import HandS.More
import HandS.Style
import HandS.TryMany
import PySem.Challenge.RW_veilsum_k15_what_hands_see
section
set_option Elab.async false
set_option linter.all false
open PySem PySem.W PyProof.Rows
set_option maxRecDepth 100000 in
set_option maxHeartbeats 0 in
theorem VL.early (h : PySem.Challenge.rw_veilsum_k15_what_hands_see.row.wellSaid = true → PySem.Challenge.rw_veilsum_k15_what_hands_see.row.Holds) : PySem.Challenge.rw_veilsum_k15_what_hands_see.Holds := by
  w_on; o_law; exact h (by assumption)
end
set_option Elab.async false
set_option linter.all false
set_option maxRecDepth 100000
set_option maxHeartbeats 4000000
namespace VL
open PySem PySem.Spec PyProof.Rows L2

inductive FV where
  | d (p : PyData)
  | ob (c : Str) (fs : List (Str × PyData))
  | sc (ns : List Int)
inductive SV where
  | f (x : FV)
  | own (xs : List SV)
  | otup (xs : List SV)
  | obj (c : Str) (fs : List (Str × SV))
inductive Slot where
  | no
  | va (s : SV)
  | rf (s : SV)
  | vw (s : SV)
abbrev Env := List Slot

inductive Res (α : Type) where
  | ok (a : α)
  | err (c : Str)
  | bad
def Res.bind {α β : Type} : Res α → (α → Res β) → Res β
  | .ok a, k => k a
  | .err c, _ => .err c
  | .bad, _ => .bad
inductive Out (α : Type) where
  | ok (a : α) (e : Env)
  | err (c : Str)
  | bad
inductive Flow where
  | nx (e : Env)
  | rt (v : SV) (e : Env)
  | err (c : Str) (e : Env)
  | bad

mutual
inductive Dq (K : PySem.W.Frag) (G : Hp) : V → PyData → Prop
  | non : Dq K G .non .none
  | bl (b : Bool) : Dq K G (.bl b) (.bool b)
  | int (i : Int) : Dq K G (.int i) (.int i)
  | str (x : Str) : Dq K G (.str x) (.str x)
  | lst {a : Addr} {xs : List V} {ds : List PyData} : G a = some (.lst xs) → Dqs K G xs ds → Dq K G (.ref a) (.list ds)
  | tup {a : Addr} {xs : List V} {ds : List PyData} : SqT K G a xs → Dqs K G xs ds → Dq K G (.ref a) (.tuple ds)
inductive Dqs (K : PySem.W.Frag) (G : Hp) : List V → List PyData → Prop
  | nil : Dqs K G [] []
  | cons {v : V} {vs : List V} {d : PyData} {ds : List PyData} : Dq K G v d → Dqs K G vs ds → Dqs K G (v :: vs) (d :: ds)
end
inductive Dqf (K : PySem.W.Frag) (G : Hp) : List (Str × V) → List (Str × PyData) → Prop
  | nil : Dqf K G [] []
  | cons {n : Str} {v : V} {vs : List (Str × V)} {d : PyData} {ds : List (Str × PyData)} : Dq K G v d → Dqf K G vs ds → Dqf K G ((n, v) :: vs) ((n, d) :: ds)
inductive Fq (K : PySem.W.Frag) (mg : Str → Option Value) (G : Hp) : V → FV → Prop
  | d {v : V} {p : PyData} : Dq K G v p → Fq K mg G v (.d p)
  | ob {a C dx : Addr} {c : Str} {vs : List (Str × V)} {fs : List (Str × PyData)} : mg c = some (.ref C) → G a = some (.ins C dx vs) → Dqf K G vs fs → Fq K mg G (.ref a) (.ob c fs)
  | sc {a : Addr} {ns : List Int} : SqL K G a (ns.map V.int) → Fq K mg G (.ref a) (.sc ns)
mutual
inductive Ow (K : PySem.W.Frag) (mg : Str → Option Value) (G H : Hp) : V → SV → List Addr → Prop
  | f {v : V} {x : FV} : Fq K mg G v x → Ow K mg G H v (.f x) []
  | own {a : Addr} {vs : List V} {xs : List SV} {r : List Addr} : H a = some (.lst vs) → Ows K mg G H vs xs r → Ow K mg G H (.ref a) (.own xs) (a :: r)
  | otup {a : Addr} {vs : List V} {xs : List SV} {r : List Addr} : H a = some (.tup vs) → Ows K mg G H vs xs r → Ow K mg G H (.ref a) (.otup xs) (a :: r)
  | obj {a C dx : Addr} {c : Str} {vs : List (Str × V)} {fs : List (Str × SV)} {r : List Addr} : mg c = some (.ref C) → H a = some (.ins C dx vs) → Owf K mg G H vs fs r → Ow K mg G H (.ref a) (.obj c fs) (a :: r)
inductive Ows (K : PySem.W.Frag) (mg : Str → Option Value) (G H : Hp) : List V → List SV → List Addr → Prop
  | nil : Ows K mg G H [] [] []
  | cons {v : V} {vs : List V} {x : SV} {xs : List SV} {r rs : List Addr} : Ow K mg G H v x r → Ows K mg G H vs xs rs → Ows K mg G H (v :: vs) (x :: xs) (r ++ rs)
inductive Owf (K : PySem.W.Frag) (mg : Str → Option Value) (G H : Hp) : List (Str × V) → List (Str × SV) → List Addr → Prop
  | nil : Owf K mg G H [] [] []
  | cons {n : Str} {v : V} {vs : List (Str × V)} {x : SV} {xs : List (Str × SV)} {r rs : List Addr} : Ow K mg G H v x r → Owf K mg G H vs xs rs → Owf K mg G H ((n, v) :: vs) ((n, x) :: xs) (r ++ rs)
end

section
variable {K : PySem.W.Frag} {mg : Str → Option Value} {G G' H H' : Hp}
theorem sqt_mono {a : Addr} {xs : List V} (e : Same G G') (h : SqT K G a xs) : SqT K G' a xs := by
  rcases h with (h | ⟨o, h⟩) | h
  · exact .inl (.inl (e _ _ h))
  · exact .inl (.inr ⟨o, e _ _ h⟩)
  · exact .inr h
mutual
theorem Dq.mono (e : Same G G') : ∀ {v : V} {p : PyData}, Dq K G v p → Dq K G' v p
  | _, _, .non => .non
  | _, _, .bl b => .bl b
  | _, _, .int i => .int i
  | _, _, .str x => .str x
  | _, _, .lst h t => .lst (e _ _ h) (Dqs.mono e t)
  | _, _, .tup h t => .tup (sqt_mono e h) (Dqs.mono e t)
theorem Dqs.mono (e : Same G G') : ∀ {v : List V} {p : List PyData}, Dqs K G v p → Dqs K G' v p
  | _, _, .nil => .nil
  | _, _, .cons h t => .cons (Dq.mono e h) (Dqs.mono e t)
end
theorem Dqf.mono (e : Same G G') {v : List (Str × V)} {p : List (Str × PyData)} (h : Dqf K G v p) : Dqf K G' v p := by
  induction h with
  | nil => exact .nil
  | cons h t ih => exact .cons (h.mono e) ih
theorem Fq.mono (e : Same G G') {v : V} {x : FV} (h : Fq K mg G v x) : Fq K mg G' v x := by
  cases h with
  | d h => exact .d (h.mono e)
  | ob m h t => exact .ob m (e _ _ h) (t.mono e)
  | sc h => exact .sc (e.seq h)
mutual
theorem Dq.dp : ∀ {v : V} {p : PyData}, Dq K G v p → Dp K G v p
  | _, _, .non => .non
  | _, _, .bl b => .bl b
  | _, _, .int i => .int i
  | _, _, .str x => .str x
  | _, _, .lst h t => .lst (.inl (.inl h)) (Dqs.dp t)
  | _, _, .tup h t => .tup h (Dqs.dp t)
theorem Dqs.dp : ∀ {v : List V} {p : List PyData}, Dqs K G v p → DpAll K G v p
  | _, _, .nil => .nil
  | _, _, .cons h t => .cons (Dq.dp h) (Dqs.dp t)
end
inductive Dr (K : PySem.W.Frag) (G H : Hp) : V → PyData → Prop
  | fz {v : V} {p : PyData} : Dq K G v p → Dr K G H v p
  | top {a : Addr} {vs : List V} {ds : List PyData} : H a = some (.lst vs) → Dqs K G vs ds → Dr K G H (.ref a) (.list ds)
theorem Dr.lst {a : V} {ds : List PyData} (s : Same G H) (h : Dr K G H a (.list ds)) : ∃ b vs, a = .ref b ∧ H b = some (.lst vs) ∧ Dqs K G vs ds := by
  cases h with
  | fz h => cases h with
    | lst h t => exact ⟨_, _, rfl, s _ _ h, t⟩
  | top h t => exact ⟨_, _, rfl, h, t⟩
theorem Dr.dp {v : V} {p : PyData} (s : Same G H) (h : Dr K G H v p) : Dp K H v p := by
  cases h with
  | fz h => exact (h.mono s).dp
  | top h t => exact .lst (.inl (.inl h)) (t.mono s).dp
theorem Dr.mono {v : V} {p : PyData} (g : Same G G') (e : Same H H') (h : Dr K G H v p) : Dr K G' H' v p := by
  cases h with
  | fz h => exact .fz (h.mono g)
  | top h t => exact .top (e _ _ h) (t.mono g)
theorem Dqs.length {vs : List V} {ds : List PyData} (h : Dqs K G vs ds) : vs.length = ds.length := by
  induction ds generalizing vs with
  | nil => cases h; rfl
  | cons d ds ih => cases h with | cons h t => simp [ih t]
theorem Dqs.get {vs : List V} {ds : List PyData} {i : Nat} {d : PyData} (h : Dqs K G vs ds) (e : ds[i]? = some d) : ∃ v, vs[i]? = some v ∧ Dq K G v d := by
  induction ds generalizing vs i with
  | nil => simp at e
  | cons x ds ih =>
    cases h with
    | cons h t =>
      cases i with
      | zero => simp at e; subst e; exact ⟨_, rfl, h⟩
      | succ i => simpa using ih t (by simpa using e)
theorem Dqs.append {vs ws : List V} {ds es : List PyData} (h : Dqs K G vs ds) (h' : Dqs K G ws es) : Dqs K G (vs ++ ws) (ds ++ es) := by
  induction ds generalizing vs with
  | nil => cases h; exact h'
  | cons d ds ih => cases h with | cons h t => exact .cons h (ih t)
theorem Dqs.take {vs : List V} {ds : List PyData} (h : Dqs K G vs ds) (n : Nat) : Dqs K G (vs.take n) (ds.take n) := by
  induction ds generalizing vs n with
  | nil => cases h; simp; exact .nil
  | cons d ds ih =>
    cases h with
    | cons h t =>
      cases n with
      | zero => exact .nil
      | succ n => exact .cons h (ih t n)
theorem Dqs.drop {vs : List V} {ds : List PyData} (h : Dqs K G vs ds) (n : Nat) : Dqs K G (vs.drop n) (ds.drop n) := by
  induction ds generalizing vs n with
  | nil => cases h; simp; exact .nil
  | cons d ds ih =>
    cases h with
    | cons h t =>
      cases n with
      | zero => exact .cons h t
      | succ n => exact ih t n
theorem Dqs.ints {vs : List V} {ns : List Int} (h : Dqs K G vs (ns.map PyData.int)) : vs = ns.map V.int := by
  induction ns generalizing vs with
  | nil => cases h; rfl
  | cons n ns ih => cases h with | cons h t => cases h; simp [ih t]
theorem Dqs.bools {vs : List V} {ns : List Bool} (h : Dqs K G vs (ns.map PyData.bool)) : vs = ns.map V.bl := by
  induction ns generalizing vs with
  | nil => cases h; rfl
  | cons n ns ih => cases h with | cons h t => cases h; simp [ih t]
theorem Dqs.of_ints (ns : List Int) : Dqs K G (ns.map V.int) (ns.map PyData.int) := by
  induction ns with
  | nil => exact .nil
  | cons n ns ih => exact .cons (.int n) ih

mutual
theorem Ow.mono (g : Same G G') : ∀ {v : V} {x : SV} {r : List Addr}, Ow K mg G H v x r → (∀ a ∈ r, H' a = H a) → Ow K mg G' H' v x r
  | _, _, _, .f h, _ => .f (h.mono g)
  | _, _, _, .own h t, e => .own ((e _ List.mem_cons_self).trans h) (Ows.mono g t fun a m => e a (List.mem_cons_of_mem _ m))
  | _, _, _, .otup h t, e => .otup ((e _ List.mem_cons_self).trans h) (Ows.mono g t fun a m => e a (List.mem_cons_of_mem _ m))
  | _, _, _, .obj m h t, e => .obj m ((e _ List.mem_cons_self).trans h) (Owf.mono g t fun a m => e a (List.mem_cons_of_mem _ m))
theorem Ows.mono (g : Same G G') : ∀ {v : List V} {x : List SV} {r : List Addr}, Ows K mg G H v x r → (∀ a ∈ r, H' a = H a) → Ows K mg G' H' v x r
  | _, _, _, .nil, _ => .nil
  | _, _, _, .cons h t, e => .cons (Ow.mono g h fun a m => e a (List.mem_append_left _ m)) (Ows.mono g t fun a m => e a (List.mem_append_right _ m))
theorem Owf.mono (g : Same G G') : ∀ {v : List (Str × V)} {x : List (Str × SV)} {r : List Addr}, Owf K mg G H v x r → (∀ a ∈ r, H' a = H a) → Owf K mg G' H' v x r
  | _, _, _, .nil, _ => .nil
  | _, _, _, .cons h t, e => .cons (Ow.mono g h fun a m => e a (List.mem_append_left _ m)) (Owf.mono g t fun a m => e a (List.mem_append_right _ m))
end
mutual
theorem Ow.there : ∀ {v : V} {x : SV} {r : List Addr}, Ow K mg G H v x r → ∀ a ∈ r, ∃ o, H a = some o
  | _, _, _, .f h, _, m => by cases m
  | _, _, _, .own h t, a, m => by
    rcases List.mem_cons.mp m with rfl | m
    · exact ⟨_, h⟩
    · exact Ows.there t a m
  | _, _, _, .otup h t, a, m => by
    rcases List.mem_cons.mp m with rfl | m
    · exact ⟨_, h⟩
    · exact Ows.there t a m
  | _, _, _, .obj _ h t, a, m => by
    rcases List.mem_cons.mp m with rfl | m
    · exact ⟨_, h⟩
    · exact Owf.there t a m
theorem Ows.there : ∀ {v : List V} {x : List SV} {r : List Addr}, Ows K mg G H v x r → ∀ a ∈ r, ∃ o, H a = some o
  | _, _, _, .nil, _, m => by cases m
  | _, _, _, .cons h t, a, m => by
    rcases List.mem_append.mp m with m | m
    · exact Ow.there h a m
    · exact Ows.there t a m
theorem Owf.there : ∀ {v : List (Str × V)} {x : List (Str × SV)} {r : List Addr}, Owf K mg G H v x r → ∀ a ∈ r, ∃ o, H a = some o
  | _, _, _, .nil, _, m => by cases m
  | _, _, _, .cons h t, a, m => by
    rcases List.mem_append.mp m with m | m
    · exact Ow.there h a m
    · exact Owf.there t a m
end
theorem Ow.same {v : V} {x : SV} {r : List Addr} (g : Same G G') (e : Same H H') (h : Ow K mg G H v x r) : Ow K mg G' H' v x r :=
  h.mono g fun a m => by
    obtain ⟨o, q⟩ := h.there a m
    rw [q]; exact e a o q

mutual
def SV.frz : SV → Option PyData
  | .f (.d p) => some p
  | .f _ => none
  | .own xs => (SV.frzs xs).map .list
  | .otup xs => (SV.frzs xs).map .tuple
  | .obj _ _ => none
def SV.frzs : List SV → Option (List PyData)
  | [] => some []
  | x :: xs => match SV.frz x, SV.frzs xs with
    | some p, some ps => some (p :: ps)
    | _, _ => none
end
def SV.frzf : List (Str × SV) → Option (List (Str × PyData))
  | [] => some []
  | (n, x) :: xs => match SV.frz x, SV.frzf xs with
    | some p, some ps => some ((n, p) :: ps)
    | _, _ => none
def SV.frz? : SV → Option FV
  | .f x => some x
  | .own xs => (SV.frzs xs).map fun ps => .d (.list ps)
  | .otup xs => (SV.frzs xs).map fun ps => .d (.tuple ps)
  | .obj c fs => (SV.frzf fs).map fun ps => .ob c ps
end
end VL

set_option Elab.async false
set_option linter.all false
set_option maxRecDepth 100000
set_option maxHeartbeats 4000000
namespace VL
open PySem PySem.Spec PyProof.Rows L2
section
variable {K : PySem.W.Frag} {mg : Str → Option Value} {G G' H H' : Hp}
mutual
theorem Ow.frozen (g : Same G G') : ∀ {v : V} {x : SV} {r : List Addr} {p : PyData}, Ow K mg G H v x r → (∀ a ∈ r, ∀ o, H a = some o → G' a = some o) → SV.frz x = some p → Dq K G' v p
  | _, _, _, _, .f (.d h), _, q => by
    cases (show some _ = some _ from q)
    exact h.mono g
  | _, _, _, _, .f (.ob _ _ _), _, q => by cases (show none = some _ from q)
  | _, _, _, _, .f (.sc _), _, q => by cases (show none = some _ from q)
  | _, .own xs, _, _, .own h t, e, q => by
    have q' : (SV.frzs xs).map PyData.list = some _ := q
    cases z : SV.frzs xs with
    | none => rw [z] at q'; cases q'
    | some ps =>
      rw [z] at q'
      cases q'
      exact .lst (e _ List.mem_cons_self _ h) (Ows.frozen g t (fun a m => e a (List.mem_cons_of_mem _ m)) z)
  | _, .otup xs, _, _, .otup h t, e, q => by
    have q' : (SV.frzs xs).map PyData.tuple = some _ := q
    cases z : SV.frzs xs with
    | none => rw [z] at q'; cases q'
    | some ps =>
      rw [z] at q'
      cases q'
      exact .tup (SqT.of (e _ List.mem_cons_self _ h)) (Ows.frozen g t (fun a m => e a (List.mem_cons_of_mem _ m)) z)
  | _, _, _, _, .obj _ _ _, _, q => by cases (show none = some _ from q)
theorem Ows.frozen (g : Same G G') : ∀ {v : List V} {x : List SV} {r : List Addr} {p : List PyData}, Ows K mg G H v x r → (∀ a ∈ r, ∀ o, H a = some o → G' a = some o) → SV.frzs x = some p → Dqs K G' v p
  | _, _, _, _, .nil, _, q => by
    cases (show some [] = some _ from q)
    exact .nil
  | _, x :: xs, _, _, .cons h t, e, q => by
    unfold SV.frzs at q
    split at q
    · rename_i p ps h1 h2
      cases q
      exact .cons (Ow.frozen g h (fun a m => e a (List.mem_append_left _ m)) h1) (Ows.frozen g t (fun a m => e a (List.mem_append_right _ m)) h2)
    · cases q
end
theorem Owf.frozen (g : Same G G') : ∀ {v : List (Str × V)} {x : List (Str × SV)} {r : List Addr} {p : List (Str × PyData)}, Owf K mg G H v x r → (∀ a ∈ r, ∀ o, H a = some o → G' a = some o) → SV.frzf x = some p → Dqf K G' v p
  | _, _, _, _, .nil, _, q => by
    cases (show some [] = some _ from q)
    exact .nil
  | _, (n, x) :: xs, _, _, .cons h t, e, q => by
    unfold SV.frzf at q
    split at q
    · rename_i p ps h1 h2
      cases q
      exact .cons (h.frozen g (fun a m => e a (List.mem_append_left _ m)) h1) (Owf.frozen g t (fun a m => e a (List.mem_append_right _ m)) h2)
    · cases q
theorem Ow.frozenF (g : Same G G') {v : V} {x : SV} {r : List Addr} {y : FV} (h : Ow K mg G H v x r) (e : ∀ a ∈ r, ∀ o, H a = some o → G' a = some o) (q : SV.frz? x = some y) : Fq K mg G' v y := by
  cases h with
  | f h =>
    cases (show some _ = some _ from q)
    exact h.mono g
  | @own a vs xs r h t =>
    have q' : (SV.frzs xs).map (fun ps => FV.d (PyData.list ps)) = some _ := q
    cases z : SV.frzs xs with
    | none => rw [z] at q'; cases q'
    | some ps =>
      rw [z] at q'
      cases q'
      exact .d (.lst (e _ List.mem_cons_self _ h) (Ows.frozen g t (fun a m => e a (List.mem_cons_of_mem _ m)) z))
  | @otup a vs xs r h t =>
    have q' : (SV.frzs xs).map (fun ps => FV.d (PyData.tuple ps)) = some _ := q
    cases z : SV.frzs xs with
    | none => rw [z] at q'; cases q'
    | some ps =>
      rw [z] at q'
      cases q'
      exact .d (.tup (SqT.of (e _ List.mem_cons_self _ h)) (Ows.frozen g t (fun a m => e a (List.mem_cons_of_mem _ m)) z))
  | @obj a C dx c vs fs r m h t =>
    have q' : (SV.frzf fs).map (fun ps => FV.ob c ps) = some _ := q
    cases z : SV.frzf fs with
    | none => rw [z] at q'; cases q'
    | some ps =>
      rw [z] at q'
      cases q'
      exact .ob m (e _ List.mem_cons_self _ h) (t.frozen g (fun a m => e a (List.mem_cons_of_mem _ m)) z)
def gu (G H : Hp) (r : List Addr) : Hp := fun a => if a ∈ r then H a else G a
theorem gu_in {r : List Addr} {a : Addr} (h : a ∈ r) : gu G H r a = H a := by unfold gu; rw [if_pos h]
theorem gu_out {r : List Addr} {a : Addr} (h : a ∉ r) : gu G H r a = G a := by unfold gu; rw [if_neg h]
theorem gu_same {r : List Addr} (s : Same G H) : Same G (gu G H r) := fun a o e => by
  by_cases m : a ∈ r
  · rw [gu_in m]; exact s a o e
  · rw [gu_out m]; exact e
theorem gu_sub {r : List Addr} (s : Same G H) : Same (gu G H r) H := fun a o e => by
  by_cases m : a ∈ r
  · rw [gu_in m] at e; exact e
  · rw [gu_out m] at e; exact s a o e

def slotOk (K : PySem.W.Frag) (mg : Str → Option Value) (G H : Hp) (pv : V) (o : Option (Option V)) (fp : List Addr) : Slot → Prop
  | .no => fp = []
  | .va s => ∃ v, o = some (some v) ∧ Ow K mg G H v s fp
  | .rf s => o = some (some pv) ∧ Ow K mg G H pv s fp
  | .vw s => fp = [] ∧ ∃ v r, o = some (some v) ∧ Ow K mg G H v s r
structure RS (K : PySem.W.Frag) (mg : Str → Option Value) (G : Hp) (σ : L2.St) (env : Env) (H : Hp) (fp : Nat → List Addr) (pv : Nat → V) : Prop where
  len : env.length = σ.length
  rel : ∀ i s, env[i]? = some s → slotOk K mg G H (pv i) σ[i]? (fp i) s
  nil : ∀ i, env.length ≤ i → fp i = []
  sub : Same G H
  out : ∀ i, ∀ a ∈ fp i, G a = none
  nd : ∀ i, (fp i).Nodup
  dj : ∀ i j a, a ∈ fp i → a ∈ fp j → i = j
structure Ext (G H G' H' : Hp) : Prop where
  g : Same G G'
  h : Same H H'
  s : Same G' H'
  n : ∀ a o, G' a = some o → G a = some o ∨ H a = none
theorem Ext.refl (s : Same G H) : Ext G H G H := ⟨Same.refl _, Same.refl _, s, fun _ _ e => .inl e⟩
theorem none_back (e : Same H H') {a : Addr} (h : H' a = none) : H a = none := e.free h
theorem Ext.trans {G2 H2 : Hp} (x : Ext G H G' H') (y : Ext G' H' G2 H2) : Ext G H G2 H2 := ⟨x.g.trans y.g, x.h.trans y.h, y.s, fun a o e => by
  rcases y.n a o e with q | q
  · exact x.n a o q
  · exact .inr (none_back x.h q)⟩
theorem Ext.new {p : Addr} {o : HO} (s : Same G H) (hp : H p = none) : Ext G H (upd G p o) (upd H p o) where
  g := fun a u e => by rw [upd_ne (ne_of_none (s _ _ e) hp)]; exact e
  h := fun a u e => by rw [upd_ne (ne_of_none e hp)]; exact e
  s := fun a u e => by
    by_cases q : a = p
    · subst q; rw [upd_same] at e ⊢; exact e
    · rw [upd_ne q] at e ⊢; exact s _ _ e
  n := fun a u e => by
    by_cases q : a = p
    · subst q; exact .inr hp
    · rw [upd_ne q] at e; exact .inl e
theorem Ext.newO {p : Addr} {o : HO} (s : Same G H) (hp : H p = none) : Ext G H G (upd H p o) where
  g := Same.refl _
  h := fun a u e => by rw [upd_ne (ne_of_none e hp)]; exact e
  s := fun a u e => by rw [upd_ne (ne_of_none (s _ _ e) hp)]; exact s _ _ e
  n := fun _ _ e => .inl e
theorem slotOk.mono {pv : V} {o : Option (Option V)} {fp : List Addr} {s : Slot} (g : Same G G') (e : Same H H') (h : slotOk K mg G H pv o fp s) : slotOk K mg G' H' pv o fp s := by
  cases s with
  | no => exact h
  | va s => obtain ⟨v, e1, q⟩ := h; exact ⟨v, e1, q.same g e⟩
  | rf s => obtain ⟨e1, q⟩ := h; exact ⟨e1, q.same g e⟩
  | vw p => obtain ⟨e0, v, r, e1, q⟩ := h; exact ⟨e0, v, r, e1, q.same g e⟩
theorem slotOk.there {pv : V} {o : Option (Option V)} {fp : List Addr} {s : Slot} (h : slotOk K mg G H pv o fp s) : ∀ a ∈ fp, ∃ u, H a = some u := by
  cases s with
  | no => intro a m; rw [show fp = [] from h] at m; cases m
  | va s => obtain ⟨v, e1, q⟩ := h; exact q.there
  | rf s => obtain ⟨e1, q⟩ := h; exact q.there
  | vw p => obtain ⟨e0, v, r, e1, q⟩ := h; intro a m; rw [e0] at m; cases m
variable {σ σ' : L2.St} {env : Env} {fp : Nat → List Addr} {pv : Nat → V}
theorem RS.there (h : RS K mg G σ env H fp pv) (i : Nat) : ∀ a ∈ fp i, ∃ u, H a = some u := by
  intro a m
  by_cases hi : i < env.length
  · exact (h.rel i _ (List.getElem?_eq_getElem hi)).there a m
  · rw [h.nil i (by omega)] at m; cases m
theorem RS.ext (h : RS K mg G σ env H fp pv) (x : Ext G H G' H') : RS K mg G' σ env H' fp pv where
  len := h.len
  rel := fun i s e => (h.rel i s e).mono x.g x.h
  nil := h.nil
  sub := x.s
  out := fun i a m => by
    cases q : G' a with
    | none => rfl
    | some o =>
      rcases x.n a o q with z | z
      · rw [h.out i a m] at z; cases z
      · obtain ⟨u, hu⟩ := h.there i a m
        rw [hu] at z; cases z
  nd := h.nd
  dj := h.dj
theorem RS.same (h : RS K mg G σ env H fp pv) (e : Same H H') : RS K mg G σ env H' fp pv :=
  h.ext ⟨Same.refl _, e, h.sub.trans e, fun _ _ q => .inl q⟩

def ErrW (mg : Str → Option Value) (W : WX) (σ : L2.St) (H : Hp) (c : Str) : Prop := ∀ C H', mg c = some (.ref C) → Same H H' → W (.ref C) none σ H'
def PostR {α : Type} (mg : Str → Option Value) (W : WX) (σ : L2.St) (H : Hp) (k : α → Prop) : Res α → Prop
  | .ok a => k a
  | .err c => ErrW mg W σ H c
  | .bad => False
abbrev FP := Env → Res FV
abbrev FD := Env → Res PyData
abbrev FO := Env → Res SV
abbrev FT := Env → Res Bool
def tP (K : PySem.W.Frag) (mg : Str → Option Value) (W : WX) (f : FP) : TE := fun σ H Q => ∃ G env fp pv, RS K mg G σ env H fp pv ∧
  PostR mg W σ H (fun x => ∀ v G' H', Ext G H G' H' → Fq K mg G' v x → Q v H') (f env)
def tD (K : PySem.W.Frag) (mg : Str → Option Value) (W : WX) (f : FD) : TE := fun σ H Q => ∃ G env fp pv, RS K mg G σ env H fp pv ∧
  PostR mg W σ H (fun x => ∀ v G' H', Ext G H G' H' → Dr K G' H' v x → Q v H') (f env)
def tO (K : PySem.W.Frag) (mg : Str → Option Value) (W : WX) (f : FO) : TE := fun σ H Q => ∃ G env fp pv, RS K mg G σ env H fp pv ∧
  PostR mg W σ H (fun x => ∀ v G' H' r, Ext G H G' H' → Ow K mg G' H' v x r → r.Nodup → (∀ a ∈ r, H a = none ∧ G' a = none) → Q v H') (f env)
def tT (K : PySem.W.Frag) (mg : Str → Option Value) (W : WX) (f : FT) : TT := fun σ H Q => ∃ G env fp pv, RS K mg G σ env H fp pv ∧
  PostR mg W σ H (fun x => ∀ G' H', Ext G H G' H' → Q x H') (f env)
def tA (K : PySem.W.Frag) (mg : Str → Option Value) (W : WX) (f : Env → Res (List PyData)) : TA := fun σ H Q => ∃ G env fp pv, RS K mg G σ env H fp pv ∧
  PostR mg W σ H (fun xs => ∀ vs G' H', Ext G H G' H' → Dqs K G' vs xs → Q vs H') (f env)
inductive Fqs (K : PySem.W.Frag) (mg : Str → Option Value) (G : Hp) : List V → List FV → Prop
  | nil : Fqs K mg G [] []
  | cons {v : V} {vs : List V} {x : FV} {xs : List FV} : Fq K mg G v x → Fqs K mg G vs xs → Fqs K mg G (v :: vs) (x :: xs)
theorem Fqs.mono (g : Same G G') {vs : List V} {xs : List FV} (h : Fqs K mg G vs xs) : Fqs K mg G' vs xs := by
  induction h with
  | nil => exact .nil
  | cons h t ih => exact .cons (h.mono g) ih
theorem ErrW.mono {W : WX} {c : Str} (e : Same H H') (h : ErrW mg W σ H c) : ErrW mg W σ H' c := fun C H2 m s => h C H2 m (e.trans s)
theorem PostR.imp {α : Type} {W : WX} {k k' : α → Prop} {r : Res α} (h : PostR mg W σ H k r) (e : Same H H') (q : ∀ a, k a → k' a) : PostR mg W σ H' k' r := by
  cases r with
  | ok a => exact q a h
  | err c => exact h.mono e
  | bad => exact h
theorem PostR.seq {α β : Type} {W : WX} {k : α → Prop} {j : β → Prop} {r : Res α} {g : α → Res β} (h : PostR mg W σ H j (r.bind g)) (q : ∀ a, PostR mg W σ H j (g a) → k a) : PostR mg W σ H k r := by
  cases r with
  | ok a => exact q a h
  | err c => exact h
  | bad => exact h
end

section
variable {X : Cx} {e : Expr} {es : List Expr}
theorem pe_imp {t t' : TE} (h : PE X e t) (q : ∀ σ H Q, t' σ H Q → t σ H Q) : PE X e t' := ⟨fun pins s σ H Q I w => h.run pins s σ H Q I (q σ H Q w)⟩
theorem pt_imp {t t' : TT} (h : PT X e t) (q : ∀ σ H Q, t' σ H Q → t σ H Q) : PT X e t' := ⟨fun pins s σ H Q I w => h.run pins s σ H Q I (q σ H Q w)⟩
theorem pa_imp {t t' : TA} (h : PA X es t) (q : ∀ σ H Q, t' σ H Q → t σ H Q) : PA X es t' := ⟨fun pos pins s σ H Q I w => h.run pos pins s σ H Q I (q σ H Q w)⟩
theorem ps_imp {st : Stmt} {t t' : TS} (h : PS X st t) (q : ∀ D σ H, t' D σ H → t D σ H) : PS X st t' := ⟨fun pins s σ H D I w => h.run pins s σ H D I (q D σ H w)⟩
theorem pss_imp {st : List Stmt} {t t' : TS} (h : PSs X st t) (q : ∀ D σ H, t' D σ H → t D σ H) : PSs X st t' := ⟨fun pins s σ H D I w => h.run pins s σ H D I (q D σ H w)⟩
theorem pi_imp {tg : Expr} {t t' : TI} (h : PI X tg e t) (q : ∀ σ H R, t' σ H R → t σ H R) : PI X tg e t' := ⟨fun pins s σ H R I w => h.run pins s σ H R I (q σ H R w)⟩
theorem po_imp {o : Option Expr} {t t' : TO} (h : PO X o t) (q : ∀ σ H Q, t' σ H Q → t σ H Q) : PO X o t' := ⟨fun pins s σ H Q I w => h.run pins s σ H Q I (q σ H Q w)⟩
theorem pg_imp {t t' : TG} (h : PG X e t) (q : ∀ v σ H Q, t' v σ H Q → t v σ H Q) : PG X e t' := ⟨fun pins s σ H v u Q I r w => h.run pins s σ H v u Q I r (q v σ H Q w)⟩
abbrev VP (X : Cx) (W : WX) (e : Expr) (f : FP) : Prop := PE X e (tP X.K X.mg W f)
abbrev VD (X : Cx) (W : WX) (e : Expr) (f : FD) : Prop := PE X e (tD X.K X.mg W f)
abbrev VO (X : Cx) (W : WX) (e : Expr) (f : FO) : Prop := PE X e (tO X.K X.mg W f)
abbrev VT (X : Cx) (W : WX) (e : Expr) (f : FT) : Prop := PT X e (tT X.K X.mg W f)
abbrev VA (X : Cx) (W : WX) (es : List Expr) (f : Env → Res (List PyData)) : Prop := PA X es (tA X.K X.mg W f)
end
end VL

set_option Elab.async false
set_option linter.all false
set_option maxRecDepth 100000
set_option maxHeartbeats 4000000
namespace VL
open PySem PySem.Spec PyProof.Rows L2
section
variable {X : Cx} {W : WX} {a b c e : Expr} {es : List Expr} {pos : Pos}

def SV.leafs : List SV → Option (List PyData)
  | [] => some []
  | .f (.d p) :: xs => (SV.leafs xs).map (p :: ·)
  | _ :: _ => none
def SV.dl (ds : List PyData) : SV := .own (ds.map fun p => .f (.d p))
theorem leafs_dq {K : PySem.W.Frag} {mg : Str → Option Value} {G H : Hp} : ∀ {vs : List V} {xs : List SV} {r : List Addr} {ds : List PyData}, Ows K mg G H vs xs r → SV.leafs xs = some ds → Dqs K G vs ds
  | _, _, _, _, .nil, q => by
    cases (show some [] = some _ from q)
    exact .nil
  | _, x :: xs, _, _, .cons h t, q => by
    match x, h, q with
    | .f (.d p), .f (.d h), q =>
      have q' : (SV.leafs xs).map (p :: ·) = some _ := q
      cases z : SV.leafs xs with
      | none => rw [z] at q'; cases q'
      | some ds => rw [z] at q'; cases q'; exact .cons h (leafs_dq t z)
    | .f (.ob _ _), _, q => cases (show none = some _ from q)
    | .f (.sc _), _, q => cases (show none = some _ from q)
    | .own _, _, q => cases (show none = some _ from q)
    | .otup _, _, q => cases (show none = some _ from q)
    | .obj _ _, _, q => cases (show none = some _ from q)
theorem leafs_map (ds : List PyData) : SV.leafs (ds.map fun p => .f (.d p)) = some ds := by
  induction ds with
  | nil => rfl
  | cons d ds ih => show (SV.leafs _).map _ = _; rw [ih]; rfl
theorem frzs_map (ds : List PyData) : SV.frzs (ds.map fun p => .f (.d p)) = some ds := by
  induction ds with
  | nil => rfl
  | cons d ds ih =>
    show (match SV.frz (.f (.d d)), SV.frzs (ds.map fun p => .f (.d p)) with | some p, some ps => some (p :: ps) | _, _ => none) = _
    rw [ih]
    rfl
theorem frz?_dl (ds : List PyData) : SV.frz? (SV.dl ds) = some (.d (.list ds)) := by
  show (SV.frzs _).map _ = _
  rw [frzs_map]; rfl
theorem frz_dl (ds : List PyData) : SV.frz (SV.dl ds) = some (.list ds) := by
  show (SV.frzs _).map _ = _
  rw [frzs_map]; rfl
theorem ows_of {K : PySem.W.Frag} {mg : Str → Option Value} {G H : Hp} : ∀ {vs : List V} {ds : List PyData}, Dqs K G vs ds → Ows K mg G H vs (ds.map fun p => .f (.d p)) []
  | _, _, .nil => .nil
  | _, _, .cons h t => .cons (r := []) (rs := []) (.f (.d h)) (ows_of t)
theorem ow_dl {K : PySem.W.Frag} {mg : Str → Option Value} {G H : Hp} {p : Addr} {vs : List V} {ds : List PyData} (h : H p = some (.lst vs)) (t : Dqs K G vs ds) : Ow K mg G H (.ref p) (SV.dl ds) [p] := .own h (ows_of t)
theorem new_dl {K : PySem.W.Frag} {mg : Str → Option Value} {G H : Hp} {vs : List V} {ds : List PyData} {Q : VK} (s : Same G H) (t : Dqs K G vs ds)
    (q : ∀ v G' H' r, Ext G H G' H' → Ow K mg G' H' v (SV.dl ds) r → r.Nodup → (∀ a ∈ r, H a = none ∧ G' a = none) → Q v H') : ∀ p, H p = none → Q (.ref p) (upd H p (.lst vs)) := fun p hp =>
  q _ G _ [p] (Ext.newO s hp) (ow_dl upd_same t) (by simp) fun a m => by
    have e : a = p := by simpa using m
    subst e
    exact ⟨hp, none_back s hp⟩
theorem new_tup {K : PySem.W.Frag} {mg : Str → Option Value} {G H : Hp} {vs : List V} {ds : List PyData} {Q : VK} (s : Same G H) (t : Dqs K G vs ds)
    (q : ∀ v G' H', Ext G H G' H' → Fq K mg G' v (.d (.tuple ds)) → Q v H') : ∀ p, H p = none → Q (.ref p) (upd H p (.tup vs)) := fun p hp =>
  q _ _ _ (Ext.new s hp) (.d (.tup (SqT.of upd_same) (t.mono (Ext.new s hp).g)))

def toD (f : FP) : FD := fun env => (f env).bind fun | .d p => .ok p | _ => .bad
def frO (f : FO) : FP := fun env => (f env).bind fun s => match s.frz? with | some x => .ok x | none => .bad
def frD (f : FO) : FD := fun env => (f env).bind fun s => match s.frz with | some x => .ok x | none => .bad
def unO (f : FP) : FO := fun env => (f env).bind fun x => .ok (.f x)
theorem vd_p {f : FP} (h : VP X W e f) : VD X W e (toD f) := pe_imp h fun σ H Q ⟨G, env, fp, pv, rs, w⟩ => ⟨G, env, fp, pv, rs, PostR.seq w fun x w v G' H' ex fq => by
  match x, fq, w with
  | .d p, .d q, w => exact w v G' H' ex (.fz q)
  | .ob _ _, _, w => exact w.elim
  | .sc _, _, w => exact w.elim⟩
theorem vp_o {f : FO} (h : VO X W e f) : VP X W e (frO f) := pe_imp h fun σ H Q ⟨G, env, fp, pv, rs, w⟩ => ⟨G, env, fp, pv, rs, PostR.seq w fun s w v G' H' r ex ow nd fr => by
  cases z : s.frz? with
  | none => rw [z] at w; exact w.elim
  | some x =>
    rw [z] at w
    have g : Same G' (gu G' H' r) := gu_same ex.s
    refine w v (gu G' H' r) H' ⟨ex.g.trans g, ex.h, gu_sub ex.s, fun a o e => ?_⟩ (ow.frozenF g (fun a m o e => by rw [gu_in m]; exact e) z)
    by_cases m : a ∈ r
    · exact .inr (fr a m).1
    · rw [gu_out m] at e; exact ex.n a o e⟩
theorem vd_o {f : FO} (h : VO X W e f) : VD X W e (frD f) := pe_imp h fun σ H Q ⟨G, env, fp, pv, rs, w⟩ => ⟨G, env, fp, pv, rs, PostR.seq w fun s w v G' H' r ex ow nd fr => by
  cases z : s.frz with
  | none => rw [z] at w; exact w.elim
  | some x =>
    rw [z] at w
    have g : Same G' (gu G' H' r) := gu_same ex.s
    refine w v (gu G' H' r) H' ⟨ex.g.trans g, ex.h, gu_sub ex.s, fun a o e => ?_⟩ (.fz (ow.frozen g (fun a m o e => by rw [gu_in m]; exact e) z))
    by_cases m : a ∈ r
    · exact .inr (fr a m).1
    · rw [gu_out m] at e; exact ex.n a o e⟩
theorem vo_p {f : FP} (h : VP X W e f) : VO X W e (unO f) := pe_imp h fun σ H Q ⟨G, env, fp, pv, rs, w⟩ => ⟨G, env, fp, pv, rs, PostR.seq w fun x w v G' H' ex fq =>
  w v G' H' [] ex (.f fq) .nil (fun _ m => by cases m)⟩

def vVar (i : Nat) : FP := fun env => match env[i]? with | some (.va (.f x)) => .ok x | some (.rf (.f x)) => .ok x | some (.vw (.f x)) => .ok x | _ => .bad
def vVarD (i : Nat) : FD := fun env => match env[i]? with
  | some (.va (.f (.d p))) => .ok p
  | some (.rf (.f (.d p))) => .ok p
  | some (.va (.own xs)) => match SV.leafs xs with | some ds => .ok (.list ds) | none => .bad
  | some (.rf (.own xs)) => match SV.leafs xs with | some ds => .ok (.list ds) | none => .bad
  | some (.vw (.f (.d p))) => .ok p
  | some (.vw (.own xs)) => match SV.leafs xs with | some ds => .ok (.list ds) | none => .bad
  | _ => .bad
theorem vp_var {i : Nat} (h : PE X e (tVar i)) : VP X W e (vVar i) := pe_imp h fun σ H Q ⟨G, env, fp, pv, rs, w⟩ => by
  unfold vVar at w
  split at w
  · rename_i x e1
    obtain ⟨v, e2, q⟩ := rs.rel i _ e1
    generalize fp i = r at q
    cases q with
    | f q => exact ⟨v, e2, w v G H (Ext.refl rs.sub) q⟩
  · rename_i x e1
    obtain ⟨e2, q⟩ := rs.rel i _ e1
    generalize fp i = r at q
    generalize pv i = u at e2 q
    cases q with
    | f q => exact ⟨_, e2, w _ G H (Ext.refl rs.sub) q⟩
  · rename_i x e1
    obtain ⟨_, v, r, e2, q⟩ := rs.rel i _ e1
    cases q with
    | f q => exact ⟨_, e2, w _ G H (Ext.refl rs.sub) q⟩
  · exact w.elim
theorem vd_var {i : Nat} (h : PE X e (tVar i)) : VD X W e (vVarD i) := pe_imp h fun σ H Q ⟨G, env, fp, pv, rs, w⟩ => by
  unfold vVarD at w
  split at w
  · rename_i x e1
    obtain ⟨v, e2, q⟩ := rs.rel i _ e1
    generalize fp i = r at q
    cases q with
    | f q => cases q with | d q => exact ⟨v, e2, w v G H (Ext.refl rs.sub) (.fz q)⟩
  · rename_i x e1
    obtain ⟨e2, q⟩ := rs.rel i _ e1
    generalize fp i = r at q
    generalize pv i = u at e2 q
    cases q with
    | f q => cases q with | d q => exact ⟨_, e2, w _ G H (Ext.refl rs.sub) (.fz q)⟩
  · rename_i xs e1
    obtain ⟨v, e2, q⟩ := rs.rel i _ e1
    generalize fp i = r at q
    cases z : SV.leafs xs with
    | none => rw [z] at w; exact w.elim
    | some ds =>
      rw [z] at w
      cases q with
      | own h t => exact ⟨_, e2, w _ G H (Ext.refl rs.sub) (.top h (leafs_dq t z))⟩
  · rename_i xs e1
    obtain ⟨e2, q⟩ := rs.rel i _ e1
    generalize fp i = r at q
    generalize pv i = u at e2 q
    cases z : SV.leafs xs with
    | none => rw [z] at w; exact w.elim
    | some ds =>
      rw [z] at w
      cases q with
      | own h t => exact ⟨_, e2, w _ G H (Ext.refl rs.sub) (.top h (leafs_dq t z))⟩
  · rename_i x e1
    obtain ⟨_, v, r, e2, q⟩ := rs.rel i _ e1
    cases q with
    | f q => cases q with | d q => exact ⟨v, e2, w v G H (Ext.refl rs.sub) (.fz q)⟩
  · rename_i xs e1
    obtain ⟨_, v, r, e2, q⟩ := rs.rel i _ e1
    cases z : SV.leafs xs with
    | none => rw [z] at w; exact w.elim
    | some ds =>
      rw [z] at w
      cases q with
      | own h t => exact ⟨_, e2, w _ G H (Ext.refl rs.sub) (.top h (leafs_dq t z))⟩
  · exact w.elim
def vC (p : PyData) : FP := fun _ => .ok (.d p)
theorem vp_c {v : V} {p : PyData} (h : PE X e (tC v)) (q : ∀ G, Dq X.K G v p) : VP X W e (vC p) := pe_imp h fun σ H Q ⟨G, env, fp, pv, rs, w⟩ => w v G H (Ext.refl rs.sub) (.d (q G))
theorem vp_int {i : Int} {j} : VP X W (.Constant (.int i) j pos) (vC (.int i)) := vp_c pe_int fun _ => .int i
theorem vp_bl {i : Bool} {j} : VP X W (.Constant (.bool i) j pos) (vC (.bool i)) := vp_c pe_bl fun _ => .bl i
theorem vp_str {i : Str} {j} : VP X W (.Constant (.str i) j pos) (vC (.str i)) := vp_c pe_str fun _ => .str i

def v2 {α : Type} (h : PyData → PyData → Res α) (f g : FD) : Env → Res α := fun env => (f env).bind fun x => (g env).bind fun y => h x y
theorem tD_bin {α : Type} {h : PyData → PyData → Res α} {f g : FD} {r : R2} {ta tb : TE} {σ : L2.St} {H : Hp} {Q : VK} {j : Hp → Hp → α → Prop} {G : Hp} {env : Env} {fp : Nat → List Addr} {pv : Nat → V}
    (ea : ta = tD X.K X.mg W f) (eb : tb = tD X.K X.mg W g) (rs : RS X.K X.mg G σ env H fp pv)
    (w : PostR X.mg W σ H (j G H) (v2 h f g env)) (jm : ∀ {G H G' H' x}, Ext G H G' H' → j G H x → j G' H' x)
    (hr : ∀ x y vx vy G H, Same G H → Dr X.K G H vx x → Dr X.K G H vy y → PostR X.mg W σ H (j G H) (h x y) → r vx vy H Q) : tOp r ta tb σ H Q := by
  subst ea eb
  refine ⟨G, env, fp, pv, rs, PostR.seq w fun x w vx G1 H1 e1 q1 => ⟨G1, env, fp, pv, rs.ext e1, ?_⟩⟩
  refine PostR.imp (PostR.seq (k := fun y => PostR X.mg W σ H (j G H) (h x y)) w fun y w => w) e1.h fun y w vy G2 H2 e2 q2 => ?_
  exact hr x y vx vy G2 H2 e2.s (q1.mono e2.g e2.h) q2 (PostR.imp w (e1.h.trans e2.h) fun z q => jm (e1.trans e2) q)
def jP (K : PySem.W.Frag) (mg : Str → Option Value) (Q : VK) (G H : Hp) (x : FV) : Prop := ∀ v G' H', Ext G H G' H' → Fq K mg G' v x → Q v H'
def jO (K : PySem.W.Frag) (mg : Str → Option Value) (Q : VK) (G H : Hp) (x : SV) : Prop := ∀ v G' H' r, Ext G H G' H' → Ow K mg G' H' v x r → r.Nodup → (∀ a ∈ r, H a = none ∧ G' a = none) → Q v H'
theorem jP.ext {Q : VK} {G H G' H' : Hp} {x : FV} (e : Ext G H G' H') (h : jP X.K X.mg Q G H x) : jP X.K X.mg Q G' H' x := fun v G2 H2 e2 q => h v G2 H2 (e.trans e2) q
theorem jO.ext {Q : VK} {G H G' H' : Hp} {x : SV} (e : Ext G H G' H') (h : jO X.K X.mg Q G H x) : jO X.K X.mg Q G' H' x := fun v G2 H2 r e2 q nd fr => h v G2 H2 r (e.trans e2) q nd fun a m => ⟨none_back e.h (fr a m).1, (fr a m).2⟩
theorem vp_op {op : Operator} {r : R2} {h : PyData → PyData → Res FV} {f g : FD} (ho : OpR X (binaryOp op) r) (ha : VD X W a f) (hb : VD X W b g)
    (hr : ∀ σ Q x y vx vy G H, Same G H → Dr X.K G H vx x → Dr X.K G H vy y → PostR X.mg W σ H (jP X.K X.mg Q G H) (h x y) → r vx vy H Q) : VP X W (.BinOp a op b pos) (v2 h f g) :=
  pe_imp (pe_op ho ha hb) fun σ H Q ⟨G, env, fp, pv, rs, w⟩ => tD_bin (j := jP X.K X.mg Q) rfl rfl rs w jP.ext (hr σ Q)
theorem vo_op {op : Operator} {r : R2} {h : PyData → PyData → Res SV} {f g : FD} (ho : OpR X (binaryOp op) r) (ha : VD X W a f) (hb : VD X W b g)
    (hr : ∀ σ Q x y vx vy G H, Same G H → Dr X.K G H vx x → Dr X.K G H vy y → PostR X.mg W σ H (jO X.K X.mg Q G H) (h x y) → r vx vy H Q) : VO X W (.BinOp a op b pos) (v2 h f g) :=
  pe_imp (pe_op ho ha hb) fun σ H Q ⟨G, env, fp, pv, rs, w⟩ => tD_bin (j := jO X.K X.mg Q) rfl rfl rs w jO.ext (hr σ Q)
theorem vp_cm {op : CmpOp} {r : R2} {h : PyData → PyData → Res FV} {f g : FD} (ho : OpR X (compareOp op) r) (ha : VD X W a f) (hb : VD X W b g) (hm : behindInMarks op b = false)
    (hr : ∀ σ Q x y vx vy G H, Same G H → Dr X.K G H vx x → Dr X.K G H vy y → PostR X.mg W σ H (jP X.K X.mg Q G H) (h x y) → r vx vy H Q) : VP X W (.Compare a [op] [b] pos) (v2 h f g) :=
  pe_imp (pe_cmpR ho ha hb hm) fun σ H Q ⟨G, env, fp, pv, rs, w⟩ => tD_bin (j := jP X.K X.mg Q) rfl rfl rs w jP.ext (hr σ Q)
noncomputable def cIf {α : Type} (c : Prop) (a b : α) : α := @ite α c (Classical.propDecidable c) a b
theorem cIf_pos {α : Type} {c : Prop} {a b : α} (h : c) : cIf c a b = a := by unfold cIf; rw [if_pos h]
theorem cIf_neg {α : Type} {c : Prop} {a b : α} (h : ¬ c) : cIf c a b = b := by unfold cIf; rw [if_neg h]

def iI (i : Int) : Res FV := .ok (.d (.int i))
def iB (b : Bool) : Res FV := .ok (.d (.bool b))
def subI : PyData → PyData → Res FV
  | .int i, .int j => iI (i - j)
  | _, _ => .bad
noncomputable def modI : PyData → PyData → Res FV
  | .int i, .int j => cIf (0 < j) (iI (i % j)) .bad
  | _, _ => .bad
noncomputable def divI : PyData → PyData → Res FV
  | .int i, .int j => cIf (0 < j ∧ j < 1073741824) (iI (i / j)) .bad
  | _, _ => .bad
theorem Dr.int {K : PySem.W.Frag} {G H : Hp} {v : V} {i : Int} (h : Dr K G H v (.int i)) : v = .int i := by
  cases h with | fz h => cases h; rfl
theorem Dr.bool {K : PySem.W.Frag} {G H : Hp} {v : V} {i : Bool} (h : Dr K G H v (.bool i)) : v = .bl i := by
  cases h with | fz h => cases h; rfl
theorem Dr.str {K : PySem.W.Frag} {G H : Hp} {v : V} {i : Str} (h : Dr K G H v (.str i)) : v = .str i := by
  cases h with | fz h => cases h; rfl
theorem Dr.non {K : PySem.W.Frag} {G H : Hp} {v : V} (h : Dr K G H v .none) : v = .non := by
  cases h with | fz h => cases h; rfl
theorem jP.int {Q : VK} {G H : Hp} {i : Int} (s : Same G H) (h : jP X.K X.mg Q G H (.d (.int i))) : Q (.int i) H := h _ G H (Ext.refl s) (.d (.int i))
theorem jP.bool {Q : VK} {G H : Hp} {i : Bool} (s : Same G H) (h : jP X.K X.mg Q G H (.d (.bool i))) : Q (.bl i) H := h _ G H (Ext.refl s) (.d (.bl i))
theorem vp_sub {f g : FD} (ha : VD X W a f) (hb : VD X W b g) : VP X W (.BinOp a .Sub b pos) (v2 subI f g) := vp_op op_sub ha hb fun σ Q x y vx vy G H s hx hy w => by
  unfold subI at w
  split at w
  · exact ⟨_, _, hx.int, hy.int, jP.int s w⟩
  · exact w.elim
theorem vp_mod {f g : FD} (ha : VD X W a f) (hb : VD X W b g) : VP X W (.BinOp a .Mod b pos) (v2 modI f g) := vp_op op_mod ha hb fun σ Q x y vx vy G H s hx hy w => by
  unfold modI cIf at w
  split at w
  · split at w
    · rename_i h
      exact ⟨_, _, hx.int, hy.int, h, jP.int s w⟩
    · exact w.elim
  · exact w.elim
theorem vp_div {f g : FD} (ha : VD X W a f) (hb : VD X W b g) : VP X W (.BinOp a .FloorDiv b pos) (v2 divI f g) := vp_op op_fdiv ha hb fun σ Q x y vx vy G H s hx hy w => by
  unfold divI cIf at w
  split at w
  · split at w
    · rename_i h
      exact ⟨_, _, hx.int, hy.int, h, jP.int s w⟩
    · exact w.elim
  · exact w.elim
noncomputable def addV : PyData → PyData → Res SV
  | .int i, .int j => .ok (.f (.d (.int (i + j))))
  | .list xs, .list ys => cIf (xs.length + ys.length ≤ 16777216) (.ok (SV.dl (xs ++ ys))) .bad
  | .tuple xs, .tuple ys => cIf (xs.length + ys.length ≤ 16777216) (.ok (.f (.d (.tuple (xs ++ ys))))) .bad
  | _, _ => .bad
theorem jO.f {Q : VK} {G H : Hp} {x : FV} (h : jO X.K X.mg Q G H (.f x)) : jP X.K X.mg Q G H x := fun v G' H' e q => h v G' H' [] e (.f q) .nil (fun _ m => by cases m)
theorem sl_eq : sizeLine = 16777216 := sizeLine_eq
theorem Dr.tup {K : PySem.W.Frag} {G H : Hp} {v : V} {ds : List PyData} (h : Dr K G H v (.tuple ds)) : ∃ a vs, v = .ref a ∧ SqT K G a vs ∧ Dqs K G vs ds := by
  cases h with | fz h => cases h with | tup h t => exact ⟨_, _, rfl, h, t⟩
theorem vo_add {f g : FD} (ha : VD X W a f) (hb : VD X W b g) : VO X W (.BinOp a .Add b pos) (v2 addV f g) := vo_op (OpR.or op_add (OpR.or op_cat op_catA)) ha hb fun σ Q x y vx vy G H s hx hy w => by
  unfold addV cIf at w
  split at w
  · exact .inl ⟨_, _, hx.int, hy.int, jP.int s (jO.f w)⟩
  · split at w
    · rename_i xs ys hl
      obtain ⟨p1, v1, e1, h1, t1⟩ := hx.lst s
      obtain ⟨p2, v2, e2, h2, t2⟩ := hy.lst s
      exact .inr (.inl ⟨p1, p2, v1, v2, e1, e2, h1, h2, by rw [t1.length, t2.length, sl_eq]; exact hl, new_dl s (t1.append t2) w⟩)
    · exact w.elim
  · split at w
    · rename_i xs ys hl
      obtain ⟨p1, v1, e1, h1, t1⟩ := hx.tup
      obtain ⟨p2, v2, e2, h2, t2⟩ := hy.tup
      have w' := jO.f w
      refine .inr (.inr ⟨p1, p2, v1, v2, e1, e2, sqt_mono s h1, sqt_mono s h2, by rw [t1.length, t2.length, sl_eq]; exact hl, fun z => ?_, fun _ z => ?_, fun _ _ => new_tup s (t1.append t2) w'⟩)
      · subst z
        cases t1
        exact w' _ G H (Ext.refl s) (.d (.tup h2 t2))
      · subst z
        cases t2
        exact w' _ G H (Ext.refl s) (.d (.tup h1 (by rw [List.append_nil]; exact t1)))
    · exact w.elim
  · exact w.elim
noncomputable def mulV : PyData → PyData → Res SV
  | .int i, .int j => cIf ((-18446744073709551616 < i ∧ i < 18446744073709551616) ∨ (-18446744073709551616 < j ∧ j < 18446744073709551616)) (.ok (.f (.d (.int (i * j))))) .bad
  | .list xs, .int k => cIf (0 ≤ k ∧ k < 1000000 ∧ xs.length * k.toNat ≤ 16777216) (.ok (SV.dl (List.replicate k.toNat xs).flatten)) .bad
  | _, _ => .bad
theorem Dqs.rep {K : PySem.W.Frag} {G : Hp} {vs : List V} {ds : List PyData} (h : Dqs K G vs ds) : ∀ n : Nat, Dqs K G (List.replicate n vs).flatten (List.replicate n ds).flatten
  | 0 => .nil
  | n + 1 => by
    rw [List.replicate_succ, List.replicate_succ, List.flatten_cons, List.flatten_cons]
    exact h.append (Dqs.rep h n)
theorem vo_mul {f g : FD} (ha : VD X W a f) (hb : VD X W b g) : VO X W (.BinOp a .Mult b pos) (v2 mulV f g) := vo_op (OpR.or op_mul op_rep) ha hb fun σ Q x y vx vy G H s hx hy w => by
  unfold mulV cIf at w
  split at w
  · split at w
    · rename_i h
      exact .inl ⟨_, _, hx.int, hy.int, h.imp (fun q => ⟨by have := q.1; omega, by have := q.2; omega⟩) (fun q => ⟨by have := q.1; omega, by have := q.2; omega⟩), jP.int s (jO.f w)⟩
    · exact w.elim
  · split at w
    · rename_i xs k hl
      obtain ⟨p1, v1, e1, h1, t1⟩ := hx.lst s
      exact .inr ⟨p1, k, v1, e1, hy.int, h1, by omega, by omega, by rw [t1.length, sl_eq]; exact hl.2.2, new_dl s (t1.rep k.toNat) w⟩
    · exact w.elim
  · exact w.elim
def negI : PyData → Res FV
  | .int i => iI (-i)
  | _ => .bad
def v1 {α : Type} (h : PyData → Res α) (f : FD) : Env → Res α := fun env => (f env).bind fun x => h x
theorem vp_neg {f : FD} (ha : VD X W a f) : VP X W (.UnaryOp .USub a pos) (v1 negI f) := pe_imp (pe_un un_neg ha) fun σ H Q ⟨G, env, fp, pv, rs, w⟩ =>
  ⟨G, env, fp, pv, rs, PostR.seq w fun x w vx G1 H1 e1 q1 => by
    unfold negI at w
    split at w
    · exact ⟨_, q1.int, w _ G1 H1 e1 (.d (.int _))⟩
    · exact w.elim⟩

def ltI (r : Int → Int → Bool) : PyData → PyData → Res FV
  | .int i, .int j => iB (r i j)
  | _, _ => .bad
theorem rI0_ok {r : Int → Int → Bool} {σ : L2.St} {Q : VK} {x y : PyData} {vx vy : V} {G H : Hp} (s : Same G H) (hx : Dr X.K G H vx x) (hy : Dr X.K G H vy y) (w : PostR X.mg W σ H (jP X.K X.mg Q G H) (ltI r x y)) : rI0 (fun i j => .bl (r i j)) vx vy H Q := by
  unfold ltI at w
  split at w
  · exact ⟨_, _, hx.int, hy.int, jP.bool s w⟩
  · exact w.elim
def eqP (x y : PyData) : Res FV := if SeqAt.shaped x = true ∧ SeqAt.shaped y = true then iB (PyData.eqv x y) else .bad
def neP (x y : PyData) : Res FV := if SeqAt.shaped x = true ∧ SeqAt.shaped y = true then iB (!PyData.eqv x y) else .bad
theorem eqP_ok {σ : L2.St} {Q : VK} {x y : PyData} {vx vy : V} {G H : Hp} (s : Same G H) (hx : Dr X.K G H vx x) (hy : Dr X.K G H vy y) (w : PostR X.mg W σ H (jP X.K X.mg Q G H) (eqP x y)) : rEqD X.K vx vy H Q := by
  unfold eqP at w
  split at w
  · rename_i h
    exact ⟨x, y, hx.dp s, hy.dp s, h.1, h.2, jP.bool s w⟩
  · exact w.elim
theorem neP_ok {σ : L2.St} {Q : VK} {x y : PyData} {vx vy : V} {G H : Hp} (s : Same G H) (hx : Dr X.K G H vx x) (hy : Dr X.K G H vy y) (w : PostR X.mg W σ H (jP X.K X.mg Q G H) (neP x y)) : rNeD X.K vx vy H Q := by
  unfold neP at w
  split at w
  · rename_i h
    exact ⟨x, y, hx.dp s, hy.dp s, h.1, h.2, jP.bool s w⟩
  · exact w.elim
def flatP : PyData → Bool
  | .none => true
  | .bool _ => true
  | .int _ => true
  | .str _ => true
  | _ => false
def toV : PyData → V
  | .none => .non
  | .bool b => .bl b
  | .int i => .int i
  | .str s => .str s
  | _ => .flt 0
theorem Dq.flat {K : PySem.W.Frag} {G : Hp} {v : V} {p : PyData} (h : Dq K G v p) (f : flatP p = true) : v = toV p ∧ flatV v = true := by
  cases h with
  | non => exact ⟨rfl, rfl⟩
  | bl b => exact ⟨rfl, rfl⟩
  | int b => exact ⟨rfl, rfl⟩
  | str b => exact ⟨rfl, rfl⟩
  | lst _ _ => cases f
  | tup _ _ => cases f
theorem Dr.flat {K : PySem.W.Frag} {G H : Hp} {v : V} {p : PyData} (h : Dr K G H v p) (f : flatP p = true) : v = toV p ∧ flatV v = true := by
  cases h with
  | fz h => exact h.flat f
  | top _ _ => cases f
theorem Dqs.flat {K : PySem.W.Frag} {G : Hp} : ∀ {vs : List V} {ds : List PyData}, Dqs K G vs ds → ds.all flatP = true → vs = ds.map toV ∧ vs.all flatV = true
  | _, _, .nil, _ => ⟨rfl, rfl⟩
  | _, _, .cons h t, f => by
    rw [List.all_cons, Bool.and_eq_true] at f
    obtain ⟨e1, f1⟩ := h.flat f.1
    obtain ⟨e2, f2⟩ := Dqs.flat t f.2
    exact ⟨by rw [List.map_cons, ← e1, ← e2], by rw [List.all_cons, f1, f2]; rfl⟩
def inB (neg b : Bool) : Res FV := iB (if neg then !b else b)
def inP (neg : Bool) (x y : PyData) : Res FV := match y with
  | .list ds => if flatP x = true ∧ ds.all flatP = true then inB neg (inV (toV x) (ds.map toV)) else if SeqAt.shaped x = true ∧ SeqAt.shaped (.list ds) = true then inB neg (ds.any fun z => PyData.eqv z x) else .bad
  | .tuple ds => if flatP x = true ∧ ds.all flatP = true then inB neg (inV (toV x) (ds.map toV)) else .bad
  | _ => .bad
theorem inP_ok {neg : Bool} {σ : L2.St} {Q : VK} {x y : PyData} {vx vy : V} {G H : Hp} (s : Same G H) (hx : Dr X.K G H vx x) (hy : Dr X.K G H vy y) (w : PostR X.mg W σ H (jP X.K X.mg Q G H) (inP neg x y)) :
    rIn X.K neg vx vy H Q ∨ (∃ d ds, Dp X.K H vx d ∧ Dp X.K H vy (.list ds) ∧ SeqAt.shaped d = true ∧ SeqAt.shaped (.list ds) = true ∧ Q (.bl (if neg then !(ds.any fun z => PyData.eqv z d) else ds.any fun z => PyData.eqv z d)) H) := by
  unfold inP at w
  split at w
  · rename_i ds
    split at w
    · rename_i hf
      obtain ⟨e1, f1⟩ := hx.flat hf.1
      obtain ⟨p, vs, e2, h2, t2⟩ := hy.lst s
      obtain ⟨e3, f3⟩ := t2.flat hf.2
      refine .inl ⟨p, vs, e2, .inl (SqL.of h2), f1, f3, ?_⟩
      rw [e1, e3]
      exact jP.bool s w
    · split at w
      · rename_i hs
        exact .inr ⟨x, ds, hx.dp s, hy.dp s, hs.1, hs.2, jP.bool s w⟩
      · exact w.elim
  · rename_i ds
    split at w
    · rename_i hf
      obtain ⟨e1, f1⟩ := hx.flat hf.1
      obtain ⟨p, vs, e2, h2, t2⟩ := hy.tup
      obtain ⟨e3, f3⟩ := t2.flat hf.2
      refine .inl ⟨p, vs, e2, .inr (sqt_mono s h2), f1, f3, ?_⟩
      rw [e1, e3]
      exact jP.bool s w
    · exact w.elim
  · exact w.elim
inductive Cop where
  | lt | le | gt | ge | eq | ne | isin | notin
  deriving DecidableEq
def Cop.op : Cop → CmpOp
  | .lt => .Lt | .le => .LtE | .gt => .Gt | .ge => .GtE | .eq => .Eq | .ne => .NotEq | .isin => .In | .notin => .NotIn
def Cop.h : Cop → PyData → PyData → Res FV
  | .lt => ltI fun i j => decide (i < j)
  | .le => ltI fun i j => decide (i ≤ j)
  | .gt => ltI fun i j => decide (j < i)
  | .ge => ltI fun i j => decide (j ≤ i)
  | .eq => eqP
  | .ne => neP
  | .isin => inP false
  | .notin => inP true
def Cop.r (K : PySem.W.Frag) : Cop → R2
  | .lt => rI0 fun i j => .bl (decide (i < j))
  | .le => rI0 fun i j => .bl (decide (i ≤ j))
  | .gt => rI0 fun i j => .bl (decide (j < i))
  | .ge => rI0 fun i j => .bl (decide (j ≤ i))
  | .eq => rEqD K
  | .ne => rNeD K
  | .isin => fun x y H Q => rIn K false x y H Q ∨ rInD K x y H Q
  | .notin => fun x y H Q => rIn K true x y H Q ∨ rNotInD K x y H Q
theorem cop_or (hu : X.A.units + 65 < cLine) : ∀ c : Cop, OpR X (compareOp c.op) (c.r X.K)
  | .lt => op_lt
  | .le => op_le
  | .gt => op_gt
  | .ge => op_ge
  | .eq => op_eqD (by omega)
  | .ne => op_neD (by omega)
  | .isin => OpR.or op_in_seq (op_inD hu)
  | .notin => OpR.or op_notIn_seq (op_notInD hu)
theorem cop_ok {σ : L2.St} {Q : VK} {x y : PyData} {vx vy : V} {G H : Hp} (s : Same G H) (hx : Dr X.K G H vx x) (hy : Dr X.K G H vy y) : ∀ c : Cop, PostR X.mg W σ H (jP X.K X.mg Q G H) (c.h x y) → c.r X.K vx vy H Q
  | .lt, w => rI0_ok s hx hy w
  | .le, w => rI0_ok s hx hy w
  | .gt, w => rI0_ok s hx hy w
  | .ge, w => rI0_ok s hx hy w
  | .eq, w => eqP_ok s hx hy w
  | .ne, w => neP_ok s hx hy w
  | .isin, w => by
    rcases inP_ok s hx hy w with q | ⟨d, ds, h1, h2, h3, h4, q⟩
    · exact .inl q
    · exact .inr ⟨d, ds, h1, h2, h3, h4, q⟩
  | .notin, w => by
    rcases inP_ok s hx hy w with q | ⟨d, ds, h1, h2, h3, h4, q⟩
    · exact .inl q
    · exact .inr ⟨d, ds, h1, h2, h3, h4, q⟩
def vCmp (c : Cop) (f g : FD) : FP := v2 c.h f g
theorem vp_cmp (c : Cop) {f g : FD} (hu : X.A.units + 65 < cLine) (ha : VD X W a f) (hb : VD X W b g) (hm : behindInMarks c.op b = false) : VP X W (.Compare a [c.op] [b] pos) (vCmp c f g) :=
  vp_cm (cop_or hu c) ha hb hm fun σ Q x y vx vy G H s hx hy w => cop_ok s hx hy c w
end
end VL

set_option Elab.async false
set_option linter.all false
set_option maxRecDepth 100000
set_option maxHeartbeats 4000000
namespace VL
open PySem PySem.Spec PyProof.Rows L2
section
variable {X : Cx} {W : WX} {a b c e : Expr} {es : List Expr} {pos : Pos}

def toT (f : FP) : FT := fun env => (f env).bind fun | .d (.bool b) => .ok b | _ => .bad
theorem tT_tP {f : FP} {σ : L2.St} {H : Hp} {Q : Bool → Hp → Prop} (h : tT X.K X.mg W (toT f) σ H Q) : tP X.K X.mg W f σ H fun x H' => ∃ k, x = .bl k ∧ Q k H' := by
  obtain ⟨G, env, fp, pv, rs, w⟩ := h
  refine ⟨G, env, fp, pv, rs, PostR.seq w fun x w v G' H' ex q => ?_⟩
  match x, q, w with
  | .d (.bool k), .d q, w => cases q; exact ⟨k, rfl, w G' H' ex⟩
  | .d .none, _, w => exact w.elim
  | .d (.int _), _, w => exact w.elim
  | .d (.str _), _, w => exact w.elim
  | .d (.list _), _, w => exact w.elim
  | .d (.tuple _), _, w => exact w.elim
  | .d (.dict _), _, w => exact w.elim
  | .ob _ _, _, w => exact w.elim
  | .sc _, _, w => exact w.elim
theorem vt_p {f : FP} (h : VP X W e f) (he : ∀ whole, isTrue e X.env whole = (do let v ← whole; standAt e.pos; holding [v] (truthy v)) := by intro _; rfl) : VT X W e (toT f) :=
  pt_imp (pt_val h he) fun σ H Q w => tT_tP w
theorem vp_cmp_imp {c : Cop} {f g : FD} {σ : L2.St} {H : Hp} {Q : VK} (w : tP X.K X.mg W (vCmp c f g) σ H Q) : tOp (c.r X.K) (tD X.K X.mg W f) (tD X.K X.mg W g) σ H Q := by
  obtain ⟨G, env, fp, pv, rs, w⟩ := w
  exact tD_bin (j := jP X.K X.mg Q) rfl rfl rs w jP.ext fun x y vx vy G H s hx hy w => cop_ok s hx hy c w
theorem vt_cmp (c : Cop) {f g : FD} (hu : X.A.units + 65 < cLine) (ha : VD X W a f) (hb : VD X W b g) (hm : behindInMarks c.op b = false) : VT X W (.Compare a [c.op] [b] pos) (toT (vCmp c f g)) :=
  pt_imp (pt_cmpR (cop_or hu c) ha hb hm) fun σ H Q w => vp_cmp_imp (tT_tP w)
def vChain (c c' : Cop) (f g h : FD) : FP := fun env => (f env).bind fun x => (g env).bind fun y => (c.h x y).bind fun
  | .d (.bool true) => (h env).bind fun z => c'.h y z
  | .d (.bool false) => iB false
  | _ => .bad
theorem vp_chain_imp {c c' : Cop} {f g h : FD} {σ : L2.St} {H : Hp} {Q : VK} (w : tP X.K X.mg W (vChain c c' f g h) σ H Q) : tChain (c.r X.K) (c'.r X.K) (tD X.K X.mg W f) (tD X.K X.mg W g) (tD X.K X.mg W h) σ H Q := by
  obtain ⟨G, env, fp, pv, rs, w⟩ := w
  refine ⟨G, env, fp, pv, rs, PostR.seq w fun x w vx G1 H1 e1 q1 => ⟨G1, env, fp, pv, rs.ext e1, ?_⟩⟩
  refine PostR.imp (PostR.seq (k := fun y => PostR X.mg W σ H (jP X.K X.mg Q G H) ((c.h x y).bind _)) w fun y w => w) e1.h fun y w vy G2 H2 e2 q2 => ?_
  have q1' := q1.mono e2.g e2.h
  show c.r X.K vx vy H2 _
  refine cop_ok (W := W) (σ := σ) e2.s q1' q2 c ?_
  refine PostR.imp (PostR.seq (k := fun z => PostR X.mg W σ H (jP X.K X.mg Q G H) _) w fun z w => w) (e1.h.trans e2.h) fun z w v G3 H3 e3 q3 => ?_
  · match z, q3, w with
    | .d (.bool true), .d q3, w =>
      cases q3
      refine ⟨true, rfl, ?_⟩
      show tD X.K X.mg W h σ H3 _
      refine ⟨G3, env, fp, pv, (rs.ext (e1.trans e2)).ext e3, ?_⟩
      refine PostR.imp (PostR.seq (k := fun z => PostR X.mg W σ H (jP X.K X.mg Q G H) (c'.h y z)) w fun y w => w) ((e1.h.trans e2.h).trans e3.h) fun z w vz G4 H4 e4 q4 => ?_
      exact cop_ok e4.s ((q2.mono e3.g e3.h).mono e4.g e4.h) q4 c' (PostR.imp w (((e1.h.trans e2.h).trans e3.h).trans e4.h) fun z q => jP.ext (((e1.trans e2).trans e3).trans e4) q)
    | .d (.bool false), .d q3, w =>
      cases q3
      exact ⟨false, rfl, jP.bool e3.s (jP.ext ((e1.trans e2).trans e3) w)⟩
    | .d .none, _, w => exact w.elim
    | .d (.int _), _, w => exact w.elim
    | .d (.str _), _, w => exact w.elim
    | .d (.list _), _, w => exact w.elim
    | .d (.tuple _), _, w => exact w.elim
    | .d (.dict _), _, w => exact w.elim
    | .ob _ _, _, w => exact w.elim
    | .sc _, _, w => exact w.elim
theorem vp_chain (k k' : Cop) {f g h : FD} (hu : X.A.units + 65 < cLine) (ha : VD X W a f) (hb : VD X W b g) (hc : VD X W c h) (hm : lastMarks [k.op, k'.op] [b, c] = false) : VP X W (.Compare a [k.op, k'.op] [b, c] pos) (vChain k k' f g h) :=
  pe_imp (pe_chain (cop_or hu k) (cop_or hu k') ha hb hc hm) fun σ H Q w => vp_chain_imp w
theorem vt_chain (k k' : Cop) {f g h : FD} (hu : X.A.units + 65 < cLine) (ha : VD X W a f) (hb : VD X W b g) (hc : VD X W c h) (hm : lastMarks [k.op, k'.op] [b, c] = false) : VT X W (.Compare a [k.op, k'.op] [b, c] pos) (toT (vChain k k' f g h)) :=
  pt_imp (pt_chain (cop_or hu k) (cop_or hu k') ha hb hc hm) fun σ H Q w => vp_chain_imp (tT_tP w)
abbrev VW (X : Cx) (W : WX) (e : Expr) (f : FT) : Prop := PW X e (tT X.K X.mg W f)
theorem pw_imp {t t' : TT} (h : PW X e t) (q : ∀ σ H Q, t' σ H Q → t σ H Q) : PW X e t' := ⟨fun wh pins s σ H Q I w => h.run wh pins s σ H Q I (q σ H Q w)⟩
def vAndT (f g : FT) : FT := fun env => (f env).bind fun b => if b = true then g env else .ok false
def vOrT (f g : FT) : FT := fun env => (f env).bind fun b => if b = true then .ok true else g env
def vNotT (f : FT) : FT := fun env => (f env).bind fun b => .ok (!b)
theorem vw_and1 {f : FT} (h : VT X W a f) : VW X W (.BoolOp .And [a] pos) f := pw_and1 h
theorem vw_or1 {f : FT} (h : VT X W a f) : VW X W (.BoolOp .Or [a] pos) f := pw_or1 h
theorem vw_and {f g : FT} {rest : List Expr} (ha : VT X W a f) (hb : VW X W (.BoolOp .And (b :: rest) pos) g) : VW X W (.BoolOp .And (a :: b :: rest) pos) (vAndT f g) :=
  pw_imp (pw_and ha hb) fun σ H Q ⟨G, env, fp, pv, rs, w⟩ => ⟨G, env, fp, pv, rs, PostR.seq w fun k w G1 H1 e1 => by
    cases k with
    | true => exact ⟨G1, env, fp, pv, rs.ext e1, PostR.imp w e1.h fun z w G2 H2 e2 => w G2 H2 (e1.trans e2)⟩
    | false => exact w G1 H1 e1⟩
theorem vw_or {f g : FT} {rest : List Expr} (ha : VT X W a f) (hb : VW X W (.BoolOp .Or (b :: rest) pos) g) : VW X W (.BoolOp .Or (a :: b :: rest) pos) (vOrT f g) :=
  pw_imp (pw_or ha hb) fun σ H Q ⟨G, env, fp, pv, rs, w⟩ => ⟨G, env, fp, pv, rs, PostR.seq w fun k w G1 H1 e1 => by
    cases k with
    | true => exact w G1 H1 e1
    | false => exact ⟨G1, env, fp, pv, rs.ext e1, PostR.imp w e1.h fun z w G2 H2 e2 => w G2 H2 (e1.trans e2)⟩⟩
theorem vt_w {f : FT} (h : VW X W e f) : VT X W e f := h.pt
theorem vt_not {f : FT} (h : VT X W a f) : VT X W (.UnaryOp .Not a pos) (vNotT f) := pt_imp (pt_not h) fun σ H Q ⟨G, env, fp, pv, rs, w⟩ => ⟨G, env, fp, pv, rs, PostR.seq w fun k w G1 H1 e1 => w G1 H1 e1⟩
def bB {α : Type} (k : Bool → Res α) : FV → Res α
  | .d (.bool b) => k b
  | _ => .bad
def vAnd (f g : FP) : FP := fun env => (f env).bind (bB fun b => if b = true then g env else iB false)
def vOr (f g : FP) : FP := fun env => (f env).bind (bB fun b => if b = true then iB true else g env)
def vNot (f : FP) : FP := fun env => (f env).bind (bB fun b => iB (!b))
theorem bB_ok {α : Type} {K : PySem.W.Frag} {mg : Str → Option Value} {G H : Hp} {σ : L2.St} {v : V} {x : FV} {k : Bool → Res α} {j : α → Prop} (q : Fq K mg G v x) (w : PostR mg W σ H j (bB k x)) : ∃ b, v = .bl b ∧ PostR mg W σ H j (k b) := by
  match x, q, w with
  | .d (.bool b), .d q, w => cases q; exact ⟨b, rfl, w⟩
  | .d .none, _, w => exact w.elim
  | .d (.int _), _, w => exact w.elim
  | .d (.str _), _, w => exact w.elim
  | .d (.list _), _, w => exact w.elim
  | .d (.tuple _), _, w => exact w.elim
  | .d (.dict _), _, w => exact w.elim
  | .ob _ _, _, w => exact w.elim
  | .sc _, _, w => exact w.elim
theorem vp_one {op} {f : FP} (h : VP X W a f) : VP X W (.BoolOp op [a] pos) f := pe_one h
theorem vp_and {f g : FP} {rest : List Expr} (ha : VP X W a f) (hb : VP X W (.BoolOp .And (b :: rest) pos) g) : VP X W (.BoolOp .And (a :: b :: rest) pos) (vAnd f g) :=
  pe_imp (pe_and ha hb) fun σ H Q ⟨G, env, fp, pv, rs, w⟩ => ⟨G, env, fp, pv, rs, PostR.seq w fun k w v G1 H1 e1 q1 => by
    obtain ⟨k, rfl, w⟩ := bB_ok q1 w
    refine ⟨k, rfl, ?_⟩
    cases k with
    | true => exact ⟨G1, env, fp, pv, rs.ext e1, PostR.imp w e1.h fun z w v G2 H2 e2 => w v G2 H2 (e1.trans e2)⟩
    | false => exact jP.bool e1.s (jP.ext e1 w)⟩
theorem vp_or {f g : FP} {rest : List Expr} (ha : VP X W a f) (hb : VP X W (.BoolOp .Or (b :: rest) pos) g) : VP X W (.BoolOp .Or (a :: b :: rest) pos) (vOr f g) :=
  pe_imp (pe_or ha hb) fun σ H Q ⟨G, env, fp, pv, rs, w⟩ => ⟨G, env, fp, pv, rs, PostR.seq w fun k w v G1 H1 e1 q1 => by
    obtain ⟨k, rfl, w⟩ := bB_ok q1 w
    refine ⟨k, rfl, ?_⟩
    cases k with
    | true => exact jP.bool e1.s (jP.ext e1 w)
    | false => exact ⟨G1, env, fp, pv, rs.ext e1, PostR.imp w e1.h fun z w v G2 H2 e2 => w v G2 H2 (e1.trans e2)⟩⟩
theorem vp_not {f : FP} (h : VP X W a f) : VP X W (.UnaryOp .Not a pos) (vNot f) := pe_imp (pe_not h) fun σ H Q ⟨G, env, fp, pv, rs, w⟩ => ⟨G, env, fp, pv, rs, PostR.seq w fun k w v G1 H1 e1 q1 => by
    obtain ⟨k, rfl, w⟩ := bB_ok q1 w
    exact ⟨k, rfl, jP.bool e1.s (jP.ext e1 w)⟩⟩
def vIf {α : Type} (t : FT) (f g : Env → Res α) : Env → Res α := fun env => (t env).bind fun b => if b = true then f env else g env
def isN : PyData → Bool
  | .none => true
  | _ => false
def fldP (cn n : Str) : FV → Res FV
  | .ob c fs => if c = cn then (match fs.lookup n with | some p => .ok (.d p) | none => .bad) else .bad
  | _ => .bad
def vFld (cn n : Str) (f : FP) : FP := fun env => (f env).bind (fldP cn n)
theorem Dqf.look {K : PySem.W.Frag} {G : Hp} {n : Str} : ∀ {vs : List (Str × V)} {fs : List (Str × PyData)} {p : PyData}, Dqf K G vs fs → fs.lookup n = some p → ∃ v, vs.lookup n = some v ∧ Dq K G v p
  | _, _, _, .nil, h => by cases h
  | _, _, _, @Dqf.cons _ _ m v vs d ds h t, q => by
    by_cases e : (n == m) = true
    · simp only [List.lookup, e] at q ⊢
      cases q
      exact ⟨_, rfl, h⟩
    · have e' : (n == m) = false := by simpa using e
      simp only [List.lookup, e'] at q ⊢
      exact Dqf.look t q
def FldK (K : PySem.W.Frag) (mg : Str → Option Value) (c n : Str) : Prop :=
  ∀ C, mg c = some (.ref C) → Cls K C ∧ NoAttr K C n
abbrev FldOk (X : Cx) (c n : Str) : Prop := FldK X.K X.mg c n
theorem vp_fld {cn n : Str} {f : FP} (hc : FldOk X cn n) (ha : VP X W a f) (hb : attributeBase a n X.env (eval a X.env) = eval a X.env) : VP X W (.Attribute a n pos) (vFld cn n f) :=
  pe_imp (pe_fld ha hb) fun σ H Q ⟨G, env, fp, pv, rs, w⟩ => ⟨G, env, fp, pv, rs, PostR.seq w fun x w v G1 H1 e1 q1 => by
      match x, q1, w with
      | .ob c fs, .ob m h t, w =>
        have w0 : PostR X.mg W σ H (jP X.K X.mg Q G H) (if c = cn then (match fs.lookup n with | some p => .ok (.d p) | none => .bad) else .bad) := w
        by_cases ec : c = cn
        · rw [if_pos ec] at w0
          subst ec
          cases z2 : fs.lookup n with
          | none => rw [z2] at w0; exact w0.elim
          | some p =>
            rw [z2] at w0
            obtain ⟨u, hu, du⟩ := t.look z2
            obtain ⟨k1, k2⟩ := hc _ m
            exact ⟨_, _, _, _, u, rfl, e1.s _ _ h, k1, k2, hu, w0 u G1 H1 e1 (.d du)⟩
        · rw [if_neg ec] at w0; exact w0.elim
      | .d _, _, w => exact w.elim
      | .sc _, _, w => exact w.elim⟩

def ixP : PyData → PyData → Res FV
  | .list ds, .int i => match atI ds i with | some d => .ok (.d d) | none => .bad
  | .tuple ds, .int i => match atI ds i with | some d => .ok (.d d) | none => .bad
  | _, _ => .bad
theorem Dqs.atI {K : PySem.W.Frag} {G : Hp} {vs : List V} {ds : List PyData} {i : Int} {d : PyData} (h : Dqs K G vs ds) (e : L2.atI ds i = some d) : ∃ v, L2.atI vs i = some v ∧ Dq K G v d := by
  unfold L2.atI at e ⊢
  rw [h.length]
  cases z : ixN ds.length i with
  | none => rw [z] at e; cases e
  | some j => rw [z] at e; exact h.get e
theorem vp_ix {f g : FD} (ha : VD X W a f) (hb : VD X W b g) (hs : PlainIx b) : VP X W (.Subscript a b pos) (v2 ixP f g) :=
  pe_imp (pe_ix (IxR.or ix_list ix_tup) ha hb hs) fun σ H Q ⟨G, env, fp, pv, rs, w⟩ => tD_bin (j := jP X.K X.mg Q) rfl rfl rs w jP.ext fun x y vx vy G H s hx hy w => by
    unfold ixP at w
    split at w
    · rename_i ds i
      cases z : atI ds i with
      | none => rw [z] at w; exact w.elim
      | some d =>
        rw [z] at w
        obtain ⟨p, vs, e1, h1, t1⟩ := hx.lst s
        obtain ⟨v, hv, dv⟩ := t1.atI z
        exact .inl ⟨p, vs, i, v, e1, hy.int, SqL.of h1, hv, w v G H (Ext.refl s) (.d dv)⟩
    · rename_i ds i
      cases z : atI ds i with
      | none => rw [z] at w; exact w.elim
      | some d =>
        rw [z] at w
        obtain ⟨p, vs, e1, h1, t1⟩ := hx.tup
        obtain ⟨v, hv, dv⟩ := t1.atI z
        exact .inr ⟨p, vs, i, v, e1, hy.int, sqt_mono s h1, hv, w v G H (Ext.refl s) (.d dv)⟩
    · exact w.elim
def ixS (f : FP) (g : FD) : FP := fun env => (f env).bind fun
  | .sc ns => (g env).bind fun
    | .int i => match atI ns i with | some d => iI d | none => .bad
    | _ => .bad
  | _ => .bad
theorem atI_map {α β : Type} (k : α → β) (xs : List α) (i : Int) : atI (xs.map k) i = (atI xs i).map k := by
  unfold atI
  rw [List.length_map]
  cases ixN xs.length i with
  | none => rfl
  | some j => exact List.getElem?_map
theorem vp_ixS {f : FP} {g : FD} (ha : VP X W a f) (hb : VD X W b g) (hs : PlainIx b) : VP X W (.Subscript a b pos) (ixS f g) :=
  pe_imp (pe_ix ix_list ha hb hs) fun σ H Q ⟨G, env, fp, pv, rs, w⟩ => ⟨G, env, fp, pv, rs, PostR.seq w fun x w vx G1 H1 e1 q1 => by
    match x, q1, w with
    | .sc ns, .sc q1, w =>
      refine ⟨G1, env, fp, pv, rs.ext e1, PostR.imp (PostR.seq (k := fun y => PostR X.mg W σ H (jP X.K X.mg Q G H) _) w fun y w => w) e1.h fun y w vy G2 H2 e2 q2 => ?_⟩
      match y, q2, w with
      | .int i, q2, w =>
        have w' : PostR X.mg W σ H (jP X.K X.mg Q G H) (match atI ns i with | some d => iI d | none => .bad) := w
        cases z : atI ns i with
        | none => rw [z] at w'; exact w'.elim
        | some d =>
          rw [z] at w'
          exact ⟨_, ns.map V.int, i, .int d, rfl, q2.int, (e1.s.trans e2.h).seq q1, by rw [atI_map, z]; rfl, jP.int e2.s (jP.ext (e1.trans e2) w')⟩
      | .none, _, w => exact w.elim
      | .bool _, _, w => exact w.elim
      | .str _, _, w => exact w.elim
      | .list _, _, w => exact w.elim
      | .tuple _, _, w => exact w.elim
      | .dict _, _, w => exact w.elim
    | .d _, _, w => exact w.elim
    | .ob _ _, _, w => exact w.elim⟩
abbrev FI := Env → Res (Option Int)
def tI' (K : PySem.W.Frag) (mg : Str → Option Value) (W : WX) (f : FI) : L2.TO := fun σ H Q => ∃ G env fp pv, RS K mg G σ env H fp pv ∧
  PostR mg W σ H (fun x => ∀ G' H', Ext G H G' H' → Q x H') (f env)
abbrev VI' (X : Cx) (W : WX) (e : Option Expr) (f : FI) : Prop := L2.PO X e (tI' X.K X.mg W f)
def vNoPart : FI := fun _ => .ok none
def vPart (f : FD) : FI := fun env => (f env).bind fun | .int i => .ok (some i) | _ => .bad
theorem vi_none : VI' X W none vNoPart := po_imp po_none fun σ H Q ⟨G, env, fp, pv, rs, w⟩ => w G H (Ext.refl rs.sub)
theorem vi_some {f : FD} (h : VD X W e f) : VI' X W (some e) (vPart f) := po_imp (po_some h) fun σ H Q ⟨G, env, fp, pv, rs, w⟩ => ⟨G, env, fp, pv, rs, PostR.seq w fun x w v G1 H1 e1 q1 => by
  match x, q1, w with
  | .int i, q1, w => exact ⟨i, q1.int, w G1 H1 e1⟩
  | .none, _, w => exact w.elim
  | .bool _, _, w => exact w.elim
  | .str _, _, w => exact w.elim
  | .list _, _, w => exact w.elim
  | .tuple _, _, w => exact w.elim
  | .dict _, _, w => exact w.elim⟩
def cutP {α : Type} (xs : List α) (lo hi : Option Int) : List α := (xs.drop (HT.sIx xs.length 0 lo)).take (HT.sIx xs.length xs.length hi - HT.sIx xs.length 0 lo)
def slP (x : PyData) (lo hi : Option Int) : Res SV := match x with
  | .list ds => .ok (SV.dl (cutP ds lo hi))
  | .tuple ds => .ok (.f (.d (.tuple (cutP ds lo hi))))
  | _ => .bad
def vSl (f : FD) (lo hi : FI) : FO := fun env => (f env).bind fun x => (lo env).bind fun l => (hi env).bind fun h => slP x l h
theorem vo_sl {f : FD} {lo hi : Option Expr} {fl fh : FI} {p2 : Pos} (ha : VD X W a f) (hl : VI' X W lo fl) (hh : VI' X W hi fh) : VO X W (.Subscript a (.Slice lo hi none p2) pos) (vSl f fl fh) :=
  pe_imp (pe_slice (SlR.or sl_list sl_tupA) ha hl hh) fun σ H Q ⟨G, env, fp, pv, rs, w⟩ => ⟨G, env, fp, pv, rs, PostR.seq w fun x w vx G1 H1 e1 q1 =>
    ⟨G1, env, fp, pv, rs.ext e1, PostR.imp (PostR.seq (k := fun y => PostR X.mg W σ H (jO X.K X.mg Q G H) ((fh env).bind _)) w fun y w => w) e1.h fun l w G2 H2 e2 =>
      ⟨G2, env, fp, pv, rs.ext (e1.trans e2), PostR.imp (PostR.seq (k := fun y => PostR X.mg W σ H (jO X.K X.mg Q G H) _) w fun y w => w) (e1.h.trans e2.h) fun h w G3 H3 e3 => by
        have q3 := (q1.mono e2.g e2.h).mono e3.g e3.h
        match x, q3, w with
        | .none, _, w => exact w.elim
        | .bool _, _, w => exact w.elim
        | .int _, _, w => exact w.elim
        | .str _, _, w => exact w.elim
        | .dict _, _, w => exact w.elim
        | .list ds, q3, w =>
          obtain ⟨p, vs, ep, h1, t1⟩ := q3.lst e3.s
          refine .inl ⟨p, vs, ep, SqL.of h1, ?_⟩
          have e : Dqs X.K G3 (cutV vs l h) (cutP ds l h) := by
            unfold cutV cutP
            rw [t1.length]
            exact (t1.drop _).take _
          exact new_dl e3.s e (jO.ext ((e1.trans e2).trans e3) w)
        | .tuple ds, q3, w =>
          obtain ⟨p, vs, ep, h1, t1⟩ := q3.tup
          have e : Dqs X.K G3 (cutV vs l h) (cutP ds l h) := by
            unfold cutV cutP
            rw [t1.length]
            exact (t1.drop _).take _
          have w' := jO.f (jO.ext ((e1.trans e2).trans e3) w)
          refine .inr ⟨p, vs, ep, sqt_mono e3.s h1, fun z => ?_, fun _ => new_tup e3.s e w'⟩
          have ew : cutP ds l h = ds := by
            unfold cutP
            rw [t1.length] at z
            rw [z.1, z.2]
            simp
          rw [ew] at w'
          exact w' _ G3 H3 (Ext.refl e3.s) (.d (.tup h1 t1))⟩⟩⟩

def vNil : Env → Res (List PyData) := fun _ => .ok []
def vCons (f : FD) (g : Env → Res (List PyData)) : Env → Res (List PyData) := fun env => (f env).bind fun x => (g env).bind fun xs => .ok (x :: xs)
theorem va_nil : VA X W [] vNil := pa_imp pa_nil fun σ H Q ⟨G, env, fp, pv, rs, w⟩ => w [] G H (Ext.refl rs.sub) .nil
theorem va_cons {f : FP} {g : Env → Res (List PyData)} (ha : VP X W e f) (hr : VA X W es g) (hs : starEach (e :: es) X.env = (false, eval e X.env) :: starEach es X.env) : VA X W (e :: es) (vCons (toD f) g) :=
  pa_imp (pa_cons ha hr hs) fun σ H Q ⟨G, env, fp, pv, rs, w⟩ => ⟨G, env, fp, pv, rs, by
    have w' := PostR.seq (k := fun x => PostR X.mg W σ H _ ((g env).bind _)) w fun y w => w
    refine PostR.seq w' fun x w v G1 H1 e1 q1 => ?_
    match x, q1, w with
    | .d x, .d q1, w =>
      have w2 : PostR X.mg W σ H _ ((g env).bind _) := w
      exact ⟨G1, env, fp, pv, rs.ext e1, PostR.imp (PostR.seq (k := fun y => PostR X.mg W σ H _ (Res.ok (x :: y))) w2 fun y w => w) e1.h fun xs w vs G2 H2 e2 q2 => w (v :: vs) G2 H2 (e1.trans e2) (.cons (q1.mono e2.g) q2)⟩
    | .ob _ _, _, w => exact w.elim
    | .sc _, _, w => exact w.elim⟩
noncomputable def vLst (g : Env → Res (List PyData)) : FO := fun env => (g env).bind fun xs => cIf (xs.length ≤ 16777216) (.ok (SV.dl xs)) .bad
noncomputable def vTup (g : Env → Res (List PyData)) : FP := fun env => (g env).bind fun xs => cIf (xs.length ≤ 16777216) (.ok (.d (.tuple xs))) .bad
theorem vo_lst {g : Env → Res (List PyData)} (h : VA X W es g) : VO X W (.List es pos) (vLst g) := pe_imp (pe_lst h) fun σ H Q ⟨G, env, fp, pv, rs, w⟩ => ⟨G, env, fp, pv, rs, PostR.seq w fun xs w vs G1 H1 e1 q1 => by
  by_cases h : xs.length ≤ 16777216
  · rw [cIf_pos h] at w
    exact ⟨by rw [q1.length, sl_eq]; exact h, new_dl e1.s q1 (jO.ext e1 w)⟩
  · rw [cIf_neg h] at w; exact w.elim⟩
theorem vp_tup {g : Env → Res (List PyData)} {x1} (h : VA X W es g) : VP X W (.Tuple es x1 pos) (vTup g) := pe_imp (pe_tup h) fun σ H Q ⟨G, env, fp, pv, rs, w⟩ => ⟨G, env, fp, pv, rs, PostR.seq w fun xs w vs G1 H1 e1 q1 => by
  by_cases h : xs.length ≤ 16777216
  · rw [cIf_pos h] at w
    exact ⟨by rw [q1.length, sl_eq]; exact h, new_tup e1.s q1 (jP.ext e1 w)⟩
  · rw [cIf_neg h] at w; exact w.elim⟩
theorem vp_call1 {x : Str} {id : String} {r : List V → Hp → VK → Prop} {h : PyData → Res FV} {f : FD} {p : Pos} (hc : CallR X (.builtin id) r) (hg : Gl X x) (hm : X.mg x = none) (hv : bootBuiltins x = some (.builtin id)) (ha : VD X W e f)
    (hr : ∀ σ Q x vx G H, Same G H → Dr X.K G H vx x → PostR X.mg W σ H (jP X.K X.mg Q G H) (h x) → r [vx] H Q)
    (hn : x ≠ "__name__") (hdb : (x == ("__debug__" : Str)) = false) (he : starEach [e] X.env = (false, eval e X.env) :: starEach [] X.env) (hpl : (backTo pos (starEach [] X.env)).any (·.1) = false) : VP X W (.Call (.Name x p) [e] [] pos) (v1 h f) :=
  pe_imp (pe_callB hc hg hm hv (pa_cons ha pa_nil he) hn hdb he hpl) fun σ H Q ⟨G, env, fp, pv, rs, w⟩ => ⟨G, env, fp, pv, rs, PostR.seq w fun x w v G1 H1 e1 q1 =>
    hr σ Q x v G1 H1 e1.s q1 (PostR.imp w e1.h fun _ q => jP.ext e1 q)⟩
theorem vo_callT1 {x : Str} {T : String} {r : List V → Hp → VK → Prop} {h : PyData → Res SV} {f : FD} {p : Pos} (hc : CallR X (.type T) r) (hg : Gl X x) (hm : X.mg x = none) (hv : bootBuiltins x = some (.type T)) (ha : VD X W e f)
    (hr : ∀ σ Q x vx G H, Same G H → Dr X.K G H vx x → PostR X.mg W σ H (jO X.K X.mg Q G H) (h x) → r [vx] H Q)
    (hn : x ≠ "__name__") (hdb : (x == ("__debug__" : Str)) = false) (he : starEach [e] X.env = (false, eval e X.env) :: starEach [] X.env) (hpl : (backTo pos (starEach [] X.env)).any (·.1) = false) : VO X W (.Call (.Name x p) [e] [] pos) (v1 h f) :=
  pe_imp (pe_callTy hc hg hm hv (pa_cons ha pa_nil he) hn hdb he hpl) fun σ H Q ⟨G, env, fp, pv, rs, w⟩ => ⟨G, env, fp, pv, rs, PostR.seq w fun x w v G1 H1 e1 q1 =>
    hr σ Q x v G1 H1 e1.s q1 (PostR.imp w e1.h fun _ q => jO.ext e1 q)⟩
def lenP : PyData → Res FV
  | .list ds => iI ds.length
  | .tuple ds => iI ds.length
  | _ => .bad
theorem vp_len {f : FD} {p : Pos} (hm : X.mg "len" = none) (ha : VD X W e f) (hg : Gl X "len" := by rfl) (he : starEach [e] X.env = (false, eval e X.env) :: starEach [] X.env := by rfl) (hpl : (backTo pos (starEach [] X.env)).any (·.1) = false := by rfl) : VP X W (.Call (.Name "len" p) [e] [] pos) (v1 lenP f) :=
  vp_call1 call_len_seq hg hm boot_len ha (fun σ Q x vx G H s hx w => by
    unfold lenP at w
    split at w
    · obtain ⟨p, vs, e1, h1, t1⟩ := hx.lst s
      subst e1
      exact ⟨p, vs, rfl, .inl (SqL.of h1), by rw [t1.length]; exact jP.int s w⟩
    · obtain ⟨p, vs, e1, h1, t1⟩ := hx.tup
      subst e1
      exact ⟨p, vs, rfl, .inr (sqt_mono s h1), by rw [t1.length]; exact jP.int s w⟩
    · exact w.elim) (by decide) (by decide) he hpl
def intsOf : List PyData → Option (List Int)
  | [] => some []
  | .int i :: r => (intsOf r).map (i :: ·)
  | _ => none
def boolsOf : List PyData → Option (List Bool)
  | [] => some []
  | .bool i :: r => (boolsOf r).map (i :: ·)
  | _ => none
theorem intsOf_eq : ∀ {ds : List PyData} {ns : List Int}, intsOf ds = some ns → ds = ns.map .int
  | [], _, h => by cases h; rfl
  | .int i :: r, ns, h => by
    have h' : (intsOf r).map (i :: ·) = some ns := h
    cases z : intsOf r with
    | none => rw [z] at h'; cases h'
    | some ms => rw [z] at h'; cases h'; rw [intsOf_eq z]; rfl
  | .none :: _, _, h => by cases h
  | .bool _ :: _, _, h => by cases h
  | .str _ :: _, _, h => by cases h
  | .list _ :: _, _, h => by cases h
  | .tuple _ :: _, _, h => by cases h
  | .dict _ :: _, _, h => by cases h
theorem boolsOf_eq : ∀ {ds : List PyData} {ns : List Bool}, boolsOf ds = some ns → ds = ns.map .bool
  | [], _, h => by cases h; rfl
  | .bool i :: r, ns, h => by
    have h' : (boolsOf r).map (i :: ·) = some ns := h
    cases z : boolsOf r with
    | none => rw [z] at h'; cases h'
    | some ms => rw [z] at h'; cases h'; rw [boolsOf_eq z]; rfl
  | .none :: _, _, h => by cases h
  | .int _ :: _, _, h => by cases h
  | .str _ :: _, _, h => by cases h
  | .list _ :: _, _, h => by cases h
  | .tuple _ :: _, _, h => by cases h
  | .dict _ :: _, _, h => by cases h
theorem intsOf_map (ns : List Int) : intsOf (ns.map .int) = some ns := by
  induction ns with
  | nil => rfl
  | cons n ns ih => show (intsOf (ns.map .int)).map _ = _; rw [ih]; rfl
theorem boolsOf_map (ns : List Bool) : boolsOf (ns.map .bool) = some ns := by
  induction ns with
  | nil => rfl
  | cons n ns ih => show (boolsOf (ns.map .bool)).map _ = _; rw [ih]; rfl
def sumP : PyData → Res FV
  | .list ds => match intsOf ds with | some ns => iI ns.sum | none => .bad
  | _ => .bad
def allP : PyData → Res FV
  | .list ds => match boolsOf ds with | some ns => iB (ns.all id) | none => .bad
  | _ => .bad
theorem vp_sum {f : FD} {p : Pos} (hc : X.calm = true) (hm : X.mg "sum" = none) (ha : VD X W e f) (hg : Gl X "sum" := by rfl) (he : starEach [e] X.env = (false, eval e X.env) :: starEach [] X.env := by rfl) (hpl : (backTo pos (starEach [] X.env)).any (·.1) = false := by rfl) : VP X W (.Call (.Name "sum" p) [e] [] pos) (v1 sumP f) :=
  vp_call1 (cr_sum hc) hg hm (by decide +kernel) ha (fun σ Q x vx G H s hx w => by
    unfold sumP at w
    split at w
    · rename_i ds
      cases z : intsOf ds with
      | none => rw [z] at w; exact w.elim
      | some ns =>
        rw [z] at w
        obtain ⟨p, vs, e1, h1, t1⟩ := hx.lst s
        rw [intsOf_eq z] at t1
        rw [t1.ints] at h1
        subst e1
        exact ⟨p, ns, rfl, SqL.of h1, jP.int s w⟩
    · exact w.elim) (by decide) (by decide) he hpl
theorem vp_all {f : FD} {p : Pos} (hc : X.calm = true) (hm : X.mg "all" = none) (ha : VD X W e f) (hg : Gl X "all" := by rfl) (he : starEach [e] X.env = (false, eval e X.env) :: starEach [] X.env := by rfl) (hpl : (backTo pos (starEach [] X.env)).any (·.1) = false := by rfl) : VP X W (.Call (.Name "all" p) [e] [] pos) (v1 allP f) :=
  vp_call1 (cr_all hc) hg hm (by decide +kernel) ha (fun σ Q x vx G H s hx w => by
    unfold allP at w
    split at w
    · rename_i ds
      cases z : boolsOf ds with
      | none => rw [z] at w; exact w.elim
      | some ns =>
        rw [z] at w
        obtain ⟨p, vs, e1, h1, t1⟩ := hx.lst s
        rw [boolsOf_eq z] at t1
        rw [t1.bools] at h1
        subst e1
        exact ⟨p, ns, rfl, SqL.of h1, jP.bool s w⟩
    · exact w.elim) (by decide) (by decide) he hpl
def listP : PyData → Res SV
  | .list ds => .ok (SV.dl ds)
  | .tuple ds => .ok (SV.dl ds)
  | _ => .bad
theorem vo_list {f : FD} {p : Pos} (hm : X.mg "list" = none) (ha : VD X W e f) (hg : Gl X "list" := by rfl) (he : starEach [e] X.env = (false, eval e X.env) :: starEach [] X.env := by rfl) (hpl : (backTo pos (starEach [] X.env)).any (·.1) = false := by rfl) : VO X W (.Call (.Name "list" p) [e] [] pos) (v1 listP f) :=
  vo_callT1 call_list_of hg hm boot_list ha (fun σ Q x vx G H s hx w => by
    unfold listP at w
    split at w
    · obtain ⟨p, vs, e1, h1, t1⟩ := hx.lst s
      subst e1
      exact ⟨p, vs, rfl, .inl (SqL.of h1), new_dl s t1 w⟩
    · obtain ⟨p, vs, e1, h1, t1⟩ := hx.tup
      subst e1
      exact ⟨p, vs, rfl, .inr (sqt_mono s h1), new_dl s t1 w⟩
    · exact w.elim) (by decide) (by decide) he hpl
def insI (x : Int) : List Int → List Int
  | [] => [x]
  | y :: r => if x ≤ y then x :: y :: r else y :: insI x r
def srtI : List Int → List Int
  | [] => []
  | x :: r => insI x (srtI r)
def sortP : PyData → Res SV
  | .list ds => match intsOf ds with | some ns => .ok (SV.dl ((srtI ns).map .int)) | none => .bad
  | _ => .bad
def intP : PyData → Res SV
  | .int i => .ok (.f (.d (.int i)))
  | .bool b => .ok (.f (.d (.int (if b then 1 else 0))))
  | _ => .bad
theorem vo_int {f : FD} {p : Pos} (hm : X.mg "int" = none) (ha : VD X W e f) (hg : Gl X "int" := by rfl) (he : starEach [e] X.env = (false, eval e X.env) :: starEach [] X.env := by rfl) (hpl : (backTo pos (starEach [] X.env)).any (·.1) = false := by rfl) : VO X W (.Call (.Name "int" p) [e] [] pos) (v1 intP f) :=
  vo_callT1 call_int1 hg hm boot_int ha (fun σ Q x vx G H s hx w => by
    unfold intP at w
    split at w
    · have e1 := hx.int
      subst e1
      exact .inl ⟨_, rfl, jP.int s (jO.f w)⟩
    · have e1 := hx.bool
      subst e1
      exact .inr ⟨_, rfl, jP.int s (jO.f w)⟩
    · exact w.elim) (by decide) (by decide) he hpl
def maxI : PyData → PyData → Res FV
  | .int i, .int j => iI (if j > i then j else i)
  | _, _ => .bad
def minI : PyData → PyData → Res FV
  | .int i, .int j => iI (if j < i then j else i)
  | _, _ => .bad
theorem vp_call2 {x : Str} {id : String} {r : List V → Hp → VK → Prop} {h : PyData → PyData → Res FV} {f g : FD} {p : Pos} (hc : CallR X (.builtin id) r) (hg : Gl X x) (hm : X.mg x = none) (hv : bootBuiltins x = some (.builtin id)) (ha : VD X W a f) (hb : VD X W b g)
    (hr : ∀ σ Q x y vx vy G H, Same G H → Dr X.K G H vx x → Dr X.K G H vy y → PostR X.mg W σ H (jP X.K X.mg Q G H) (h x y) → r [vx, vy] H Q)
    (hn : x ≠ "__name__") (hdb : (x == ("__debug__" : Str)) = false) (he : starEach [a, b] X.env = (false, eval a X.env) :: starEach [b] X.env) (he2 : starEach [b] X.env = (false, eval b X.env) :: starEach [] X.env) (hpl : (backTo pos (starEach [b] X.env)).any (·.1) = false) : VP X W (.Call (.Name x p) [a, b] [] pos) (v2 h f g) :=
  pe_imp (pe_callB hc hg hm hv (pa_cons ha (pa_cons hb pa_nil he2) he) hn hdb he hpl) fun σ H Q ⟨G, env, fp, pv, rs, w⟩ =>
    (tD_bin (r := fun x y H Q => r [x, y] H Q) (j := jP X.K X.mg Q) rfl rfl rs w jP.ext (hr σ Q) :)
theorem vp_max {f g : FD} {p : Pos} (hc : X.calm = true) (hm : X.mg "max" = none) (ha : VD X W a f) (hb : VD X W b g) (hg : Gl X "max" := by rfl) (he : starEach [a, b] X.env = (false, eval a X.env) :: starEach [b] X.env := by rfl) (he2 : starEach [b] X.env = (false, eval b X.env) :: starEach [] X.env := by rfl) (hpl : (backTo pos (starEach [b] X.env)).any (·.1) = false := by rfl) : VP X W (.Call (.Name "max" p) [a, b] [] pos) (v2 maxI f g) :=
  vp_call2 (call_max2 hc) hg hm (by decide +kernel) ha hb (fun σ Q x y vx vy G H s hx hy w => by
    unfold maxI at w
    split at w
    · have e1 := hx.int
      have e2 := hy.int
      subst e1 e2
      exact ⟨_, _, rfl, jP.int s w⟩
    · exact w.elim) (by decide) (by decide) he he2 hpl
theorem vp_min {f g : FD} {p : Pos} (hc : X.calm = true) (hm : X.mg "min" = none) (ha : VD X W a f) (hb : VD X W b g) (hg : Gl X "min" := by rfl) (he : starEach [a, b] X.env = (false, eval a X.env) :: starEach [b] X.env := by rfl) (he2 : starEach [b] X.env = (false, eval b X.env) :: starEach [] X.env := by rfl) (hpl : (backTo pos (starEach [b] X.env)).any (·.1) = false := by rfl) : VP X W (.Call (.Name "min" p) [a, b] [] pos) (v2 minI f g) :=
  vp_call2 (call_min2 hc) hg hm (by decide +kernel) ha hb (fun σ Q x y vx vy G H s hx hy w => by
    unfold minI at w
    split at w
    · have e1 := hx.int
      have e2 := hy.int
      subst e1 e2
      exact ⟨_, _, rfl, jP.int s w⟩
    · exact w.elim) (by decide) (by decide) he he2 hpl
def vLenS (f : FP) : FP := fun env => (f env).bind fun | .sc ns => iI ns.length | _ => .bad
theorem vp_lenS {f : FP} {p : Pos} (hm : X.mg "len" = none) (ha : VP X W e f) (hg : Gl X "len" := by rfl) (he : starEach [e] X.env = (false, eval e X.env) :: starEach [] X.env := by rfl) (hpl : (backTo pos (starEach [] X.env)).any (·.1) = false := by rfl) : VP X W (.Call (.Name "len" p) [e] [] pos) (vLenS f) :=
  pe_imp (pe_callB call_len_seq hg hm boot_len (pa_cons ha pa_nil he) (by decide) (by decide) he hpl) fun σ H Q ⟨G, env, fp, pv, rs, w⟩ => ⟨G, env, fp, pv, rs, PostR.seq w fun x w v G1 H1 e1 q1 => by
    match x, q1, w with
    | .sc ns, .sc q1, w => exact ⟨_, ns.map V.int, rfl, .inl (e1.s.seq q1), by rw [List.length_map]; exact jP.int e1.s (jP.ext e1 w)⟩
    | .d _, _, w => exact w.elim
    | .ob _ _, _, w => exact w.elim⟩
end
end VL

set_option Elab.async false
set_option linter.all false
set_option maxRecDepth 100000
set_option maxHeartbeats 4000000
namespace VL
open PySem PySem.Spec PyProof.Rows L2

structure Stp (G H : Hp) (fp : Nat → List Addr) (G' H' : Hp) (fp' : Nat → List Addr) : Prop where
  g : Same G G'
  fr : ∀ b o, H b = some o → (∀ i, b ∉ fp i) → H' b = some o
  n : ∀ a o, G' a = some o → G a = some o ∨ H a = none ∨ ∃ i, a ∈ fp i
  f : ∀ i a, a ∈ fp' i → H a = none ∨ ∃ j, a ∈ fp j
  trk : ∀ b, H' b = none → H b = none
  fld : ∀ a C dx vs, H a = some (.ins C dx vs) → ∃ vs', H' a = some (.ins C dx vs') ∧ ∀ (f : Str) x, f ≠ "chance" → vs.lookup f = some x → vs'.lookup f = some x
section
variable {K : PySem.W.Frag} {mg : Str → Option Value} {G G' G2 H H' H2 : Hp} {fp fp' fp2 : Nat → List Addr} {σ σ' : L2.St} {env env' : Env} {pv : Nat → V}
theorem Stp.of_ext (e : Ext G H G' H') : Stp G H fp G' H' fp where
  g := e.g
  fr := fun b o h _ => e.h b o h
  n := fun a o h => by
    rcases e.n a o h with q | q
    · exact .inl q
    · exact .inr (.inl q)
  f := fun i a m => .inr ⟨i, m⟩
  trk := fun b h => none_back e.h h
  fld := fun a C dx vs h => ⟨vs, e.h _ _ h, fun _ _ _ q => q⟩
theorem Stp.refl (s : Same G H) : Stp G H fp G H fp := Stp.of_ext (Ext.refl s)
theorem Stp.trans (a : Stp G H fp G' H' fp') (b : Stp G' H' fp' G2 H2 fp2) : Stp G H fp G2 H2 fp2 where
  g := a.g.trans b.g
  fr := fun c o h n => by
    refine b.fr c o (a.fr c o h n) fun i m => ?_
    rcases a.f i c m with q | ⟨j, q⟩
    · rw [h] at q; cases q
    · exact n j q
  n := fun c o h => by
    rcases b.n c o h with q | q | ⟨i, q⟩
    · exact a.n c o q
    · exact .inr (.inl (a.trk c q))
    · rcases a.f i c q with q | q
      · exact .inr (.inl q)
      · exact .inr (.inr q)
  f := fun i c m => by
    rcases b.f i c m with q | ⟨j, q⟩
    · exact .inl (a.trk c q)
    · exact a.f j c q
  trk := fun c h => a.trk c (b.trk c h)
  fld := fun c C dx vs h => by
    obtain ⟨vs1, h1, k1⟩ := a.fld c C dx vs h
    obtain ⟨vs2, h2, k2⟩ := b.fld c C dx vs1 h1
    exact ⟨vs2, h2, fun f x hf q => k2 f x hf (k1 f x hf q)⟩
theorem Stp.sub (a : Stp G H fp G' H' fp') (h : ∀ i b, b ∈ fp2 i → H b = none ∨ ∃ j, b ∈ fp j) : Stp G H fp G' H' fp2 := ⟨a.g, a.fr, a.n, h, a.trk, a.fld⟩

abbrev ST := Env → Flow
def Post (K : PySem.W.Frag) (mg : Str → Option Value) (W : WX) (D : Ends) (G H : Hp) (fp : Nat → List Addr) (pv : Nat → V) : Flow → Prop
  | .nx e => ∀ G' σ' H' fp', Stp G H fp G' H' fp' → RS K mg G' σ' e H' fp' pv → D.nx σ' H'
  | .rt s e => ∀ v G' σ' H' fp' r, Stp G H fp G' H' fp' → RS K mg G' σ' e H' fp' pv → Ow K mg G' H' v s r → r.Nodup → (∀ a ∈ r, G' a = none ∧ (∀ i, a ∉ fp' i) ∧ (H a = none ∨ ∃ j, a ∈ fp j)) → D.rt v H'
  | .err c e => ∀ C G' σ' H' fp', mg c = some (.ref C) → Stp G H fp G' H' fp' → RS K mg G' σ' e H' fp' pv → W (.ref C) none σ' H'
  | .bad => False
theorem Post.step {W : WX} {D : Ends} {f : Flow} (s : Stp G H fp G' H' fp') (h : Post K mg W D G H fp pv f) : Post K mg W D G' H' fp' pv f := by
  cases f with
  | nx e => exact fun G2 σ2 H2 fp2 s2 r => h G2 σ2 H2 fp2 (s.trans s2) r
  | rt x e =>
    refine fun v G2 σ2 H2 fp2 r s2 rs ow nd fr => h v G2 σ2 H2 fp2 r (s.trans s2) rs ow nd fun a m => ?_
    obtain ⟨a1, a2, a3⟩ := fr a m
    refine ⟨a1, a2, ?_⟩
    rcases a3 with q | ⟨j, q⟩
    · exact .inl (s.trk a q)
    · exact s.f j a q
  | err c e => exact fun C G2 σ2 H2 fp2 m s2 r => h C G2 σ2 H2 fp2 m (s.trans s2) r
  | bad => exact h
def tS (K : PySem.W.Frag) (mg : Str → Option Value) (W : WX) (f : ST) : TS := fun D σ H => ∃ G env fp pv, RS K mg G σ env H fp pv ∧ Post K mg W D G H fp pv (f env)
def ofR {α : Type} (r : Res α) (e : Env) (k : α → Flow) : Flow := match r with
  | .ok a => k a
  | .err c => .err c e
  | .bad => .bad
theorem Post.ofR {α : Type} {W : WX} {D : Ends} {r : Res α} {k : α → Flow} {j : α → Prop} (rs : RS K mg G σ env H fp pv) (h : Post K mg W D G H fp pv (ofR r env k)) (q : ∀ a, Post K mg W D G H fp pv (k a) → j a) : PostR mg W σ H j r := by
  cases r with
  | ok a => exact q a h
  | err c => exact fun C H' m s => h C G σ H' fp m (Stp.of_ext ⟨Same.refl _, s, rs.sub.trans s, fun _ _ e => .inl e⟩) (rs.same s)
  | bad => exact h

theorem RS.notin (h : RS K mg G σ env H fp pv) {a : Addr} (n : H a = none) (j : Nat) : a ∉ fp j := fun m => by
  obtain ⟨o, ho⟩ := h.there j a m
  rw [n] at ho
  cases ho

theorem RS.set {i : Nat} {v : V} {s : SV} {r : List Addr} (h : RS K mg G σ env H fp pv) (hi : i < env.length) (ow : Ow K mg G H v s r) (nd : r.Nodup) (hr : ∀ a ∈ r, G a = none ∧ ∀ j, a ∉ fp j) :
    RS K mg G (σ.set i (some v)) (env.set i (.va s)) H (fun j => if j = i then r else fp j) pv where
  len := by rw [List.length_set, List.length_set]; exact h.len
  rel := fun j u e => by
    by_cases q : j = i
    · subst q
      rw [List.getElem?_set_self hi] at e
      cases e
      rw [List.getElem?_set_self (by rw [← h.len]; exact hi)]
      exact ⟨v, rfl, by rw [if_pos rfl]; exact ow⟩
    · rw [List.getElem?_set_ne (Ne.symm q)] at e
      rw [List.getElem?_set_ne (Ne.symm q), if_neg q]
      exact h.rel j u e
  nil := fun j hj => by
    rw [List.length_set] at hj
    show (if j = i then r else fp j) = []
    rw [if_neg (by omega)]
    exact h.nil j hj
  sub := h.sub
  out := fun j a m => by
    by_cases q : j = i
    · rw [if_pos q] at m; exact (hr a m).1
    · rw [if_neg q] at m; exact h.out j a m
  nd := fun j => by
    show (if j = i then r else fp j).Nodup
    by_cases q : j = i
    · rw [if_pos q]; exact nd
    · rw [if_neg q]; exact h.nd j
  dj := fun j k a m1 m2 => by
    by_cases q1 : j = i
    · rw [if_pos q1] at m1
      by_cases q2 : k = i
      · rw [q1, q2]
      · rw [if_neg q2] at m2; exact absurd m2 ((hr a m1).2 k)
    · rw [if_neg q1] at m1
      by_cases q2 : k = i
      · rw [if_pos q2] at m2; exact absurd m1 ((hr a m2).2 j)
      · rw [if_neg q2] at m2; exact h.dj j k a m1 m2
theorem RS.drop (h : RS K mg G σ env H fp pv) (i : Nat) : RS K mg G σ (env.set i .no) H (fun j => if j = i then [] else fp j) pv where
  len := by rw [List.length_set]; exact h.len
  rel := fun j u e => by
    by_cases q : j = i
    · subst q
      by_cases hi : j < env.length
      · rw [List.getElem?_set_self hi] at e
        cases e
        show (if j = j then [] else fp j) = []
        rw [if_pos rfl]
      · rw [List.getElem?_eq_none (by rw [List.length_set]; omega)] at e; cases e
    · rw [List.getElem?_set_ne (Ne.symm q)] at e
      rw [if_neg q]
      exact h.rel j u e
  nil := fun j hj => by
    rw [List.length_set] at hj
    show (if j = i then [] else fp j) = []
    by_cases q : j = i
    · rw [if_pos q]
    · rw [if_neg q]; exact h.nil j hj
  sub := h.sub
  out := fun j a m => by
    by_cases q : j = i
    · rw [if_pos q] at m; cases m
    · rw [if_neg q] at m; exact h.out j a m
  nd := fun j => by
    show (if j = i then [] else fp j).Nodup
    by_cases q : j = i
    · rw [if_pos q]; exact .nil
    · rw [if_neg q]; exact h.nd j
  dj := fun j k a m1 m2 => by
    by_cases q1 : j = i
    · rw [if_pos q1] at m1; cases m1
    · rw [if_neg q1] at m1
      by_cases q2 : k = i
      · rw [if_pos q2] at m2; cases m2
      · rw [if_neg q2] at m2; exact h.dj j k a m1 m2
theorem sub_ite {i : Nat} {r : List Addr} (hr : ∀ a ∈ r, H a = none ∨ ∃ j, a ∈ fp j) : ∀ j a, a ∈ (if j = i then r else fp j) → H a = none ∨ ∃ j, a ∈ fp j := fun j a m => by
  by_cases q : j = i
  · rw [if_pos q] at m; exact hr a m
  · rw [if_neg q] at m; exact .inr ⟨j, m⟩
def canSet (e : Env) (i : Nat) : Bool := match e[i]? with
  | some (.rf _) => false
  | some _ => true
  | none => false
theorem canSet_lt {e : Env} {i : Nat} (h : canSet e i = true) : i < e.length := by
  unfold canSet at h
  cases q : e[i]? with
  | none => rw [q] at h; cases h
  | some s => exact (List.getElem?_eq_some_iff.mp q).1
def setS (e : Env) (i : Nat) (s : Slot) : Flow := if canSet e i = true then .nx (e.set i s) else .bad
theorem post_set {W : WX} {D : Ends} {i : Nat} {v : V} {s : SV} {r : List Addr} (rs : RS K mg G σ env H fp pv) (ow : Ow K mg G H v s r) (nd : r.Nodup) (hr : ∀ a ∈ r, G a = none ∧ ∀ j, a ∉ fp j)
    {G0 H0 : Hp} (st : Stp G0 H0 fp G H fp) (hn : ∀ a ∈ r, H0 a = none ∨ ∃ j, a ∈ fp j)
    (h : Post K mg W D G0 H0 fp pv (setS env i (.va s))) : D.nx (σ.set i (some v)) H := by
  unfold setS at h
  by_cases c : canSet env i = true
  · rw [if_pos c] at h
    exact h G _ H _ (st.sub (sub_ite hn)) (rs.set (canSet_lt c) ow nd hr)
  · rw [if_neg c] at h; exact h.elim
end

section
variable {X : Cx} {W : WX} {a b c e : Expr} {es : List Expr} {pos : Pos} {st : Stmt} {sts : List Stmt}
abbrev VS (X : Cx) (W : WX) (st : Stmt) (f : ST) : Prop := PS X st (tS X.K X.mg W f)
abbrev VSs (X : Cx) (W : WX) (st : List Stmt) (f : ST) : Prop := PSs X st (tS X.K X.mg W f)
def vSkip : ST := fun e => .nx e
def vSeq (f g : ST) : ST := fun e => match f e with
  | .nx e => g e
  | r => r
theorem vss_nil : VSs X W [] vSkip := pss_imp pss_nil fun D σ H ⟨G, env, fp, pv, rs, w⟩ => w G σ H fp (Stp.refl rs.sub) rs
theorem vss_cons {f g : ST} (h1 : VS X W st f) (h2 : VSs X W sts g) : VSs X W (st :: sts) (vSeq f g) := pss_imp (pss_cons h1 h2) fun D σ H ⟨G, env, fp, pv, rs, w⟩ => by
  refine ⟨G, env, fp, pv, rs, ?_⟩
  unfold vSeq at w
  cases z : f env with
  | nx e =>
    rw [z] at w
    exact fun G' σ' H' fp' s r => ⟨G', e, fp', pv, r, w.step s⟩
  | rt v e => rw [z] at w; exact w
  | err c e => rw [z] at w; exact w
  | bad => rw [z] at w; exact w
theorem vss_one {f : ST} (h : VS X W st f) : VSs X W [st] f := pss_one h
def vSet (i : Nat) (f : FP) : ST := fun e => ofR (f e) e fun x => setS e i (.va (.f x))
def vSetO (i : Nat) (f : FO) : ST := fun e => ofR (f e) e fun x => setS e i (.va x)
theorem imp_set {i : Nat} {f : FP} {D : Ends} {σ : L2.St} {H : Hp} (h : tS X.K X.mg W (vSet i f) D σ H) : tAsg (tP X.K X.mg W f) (gName i) D σ H := by
  obtain ⟨G, env, fp, pv, rs, w⟩ := h
  exact ⟨G, env, fp, pv, rs, Post.ofR rs w fun x w v G1 H1 e1 q1 => post_set (rs.ext e1) (.f q1) .nil (fun a m => by cases m) (Stp.of_ext e1) (fun a m => by cases m) w⟩
theorem imp_setO {i : Nat} {f : FO} {D : Ends} {σ : L2.St} {H : Hp} (h : tS X.K X.mg W (vSetO i f) D σ H) : tAsg (tO X.K X.mg W f) (gName i) D σ H := by
  obtain ⟨G, env, fp, pv, rs, w⟩ := h
  exact ⟨G, env, fp, pv, rs, Post.ofR rs w fun x w v G1 H1 r e1 q1 nd fr => post_set (rs.ext e1) q1 nd (fun a m => ⟨(fr a m).2, rs.notin (fr a m).1⟩) (Stp.of_ext e1) (fun a m => .inl (fr a m).1) w⟩
theorem vs_set {i : Nat} {x : Str} {f : FP} {pos' : Pos} (hN : X.N.Nodup) (hi : X.N[i]? = some x) (hx : Loc X.env.scope x) (he : VP X W e f) (hs : swapsWith e (some (.Name x pos')) pos.line X.env = pure false) (hf : X.fn x = true ∨ X.env.scope.names.lookup x = some .local) :
    VS X W (.Assign [.Name x pos'] e pos) (vSet i f) := ps_imp (ps_set hN hi hx he hs hf) fun D σ H h => imp_set h
theorem vs_setO {i : Nat} {x : Str} {f : FO} {pos' : Pos} (hN : X.N.Nodup) (hi : X.N[i]? = some x) (hx : Loc X.env.scope x) (he : VO X W e f) (hs : swapsWith e (some (.Name x pos')) pos.line X.env = pure false) (hf : X.fn x = true ∨ X.env.scope.names.lookup x = some .local) :
    VS X W (.Assign [.Name x pos'] e pos) (vSetO i f) := ps_imp (ps_set hN hi hx he hs hf) fun D σ H h => imp_setO h
def vIfS (t : FT) (f g : ST) : ST := fun e => ofR (t e) e fun b => if b = true then f e else g e
theorem vs_if {t : FT} {f g : ST} {A B : List Stmt} (hc : VT X W c t) (ha : VSs X W A f) (hb : VSs X W B g) : VS X W (.If c A B pos) (vIfS t f g) :=
  ps_imp (ps_if hc ha hb) fun D σ H ⟨G, env, fp, pv, rs, w⟩ => ⟨G, env, fp, pv, rs, Post.ofR rs w fun b w G1 H1 e1 => by
    cases b with
    | true => exact ⟨G1, env, fp, pv, rs.ext e1, w.step (Stp.of_ext e1)⟩
    | false => exact ⟨G1, env, fp, pv, rs.ext e1, w.step (Stp.of_ext e1)⟩⟩
def vRet (f : FO) : ST := fun e => ofR (f e) e fun s => .rt s e
def vRetP (f : FP) : ST := fun e => ofR (f e) e fun x => .rt (.f x) e
theorem vs_ret {f : FO} (he : VO X W e f) : VS X W (.Return (some e) pos) (vRet f) := ps_imp (ps_ret he) fun D σ H ⟨G, env, fp, pv, rs, w⟩ => ⟨G, env, fp, pv, rs, Post.ofR rs w fun s w v G1 H1 r e1 q1 nd fr =>
  w v G1 σ H1 fp r (Stp.of_ext e1) (rs.ext e1) q1 nd fun a m => ⟨(fr a m).2, rs.notin (fr a m).1, .inl (fr a m).1⟩⟩
theorem vs_retP {f : FP} (he : VP X W e f) : VS X W (.Return (some e) pos) (vRetP f) := ps_imp (ps_ret he) fun D σ H ⟨G, env, fp, pv, rs, w⟩ => ⟨G, env, fp, pv, rs, Post.ofR rs w fun s w v G1 H1 e1 q1 =>
  w v G1 σ H1 fp [] (Stp.of_ext e1) (rs.ext e1) (.f q1) .nil fun a m => by cases m⟩
def vRetV (i : Nat) : ST := fun e => match e[i]? with
  | some (.va s) => .rt s (e.set i .no)
  | _ => .bad
theorem vs_retV {i : Nat} (he : PE X e (tVar i)) : VS X W (.Return (some e) pos) (vRetV i) := ps_imp (ps_ret he) fun D σ H ⟨G, env, fp, pv, rs, w⟩ => by
  unfold vRetV at w
  split at w
  · rename_i s z
    obtain ⟨v, e1, ow⟩ := rs.rel i _ z
    refine ⟨v, e1, w v G σ H _ (fp i) (Stp.sub (Stp.refl (fp := fp) rs.sub) (sub_ite (r := []) fun a m => by cases m)) (rs.drop i) ow (rs.nd i) fun a m => ⟨rs.out i a m, fun j m2 => ?_, .inr ⟨i, m⟩⟩⟩
    by_cases hj : j = i
    · rw [if_pos hj] at m2; cases m2
    · rw [if_neg hj] at m2; exact hj (rs.dj j i a m2 m)
  · exact w.elim
def vRetN : ST := fun e => .rt (.f (.d .none)) e
def vRaise (c : Str) : ST := fun e => .err c e
theorem vs_raise {x m : Str} {j : Nat} {p p2 p3 : Pos} {C : Addr} {bmB : List Value} {B newId initId : String} (hc : X.calm = true) (tk : Takes X W) (F : ExcBaseFacts B newId initId bmB) (q : PySem.W.excIn X.K C bmB newId = true) (gC : X.mg x = some (.ref C)) (kC : PySem.W.keepIn X.K (.ref C) = true) (r : Raises X (.ref C)) (hg : Gl X x) (hdb : (x == ("__debug__" : Str)) = false) :
    VS X W (.Raise (some (.Call (.Name x p) [.Constant (.str m) j p2] [] pos)) none p3) (vRaise x) := ps_imp (ps_raise hc tk (pmk_own F q gC kC r hg hdb)) fun D σ H ⟨G, env, fp, pv, rs, w⟩ => w C G σ H fp gC (Stp.refl rs.sub) rs
def vDrop (f : FO) : ST := fun e => ofR (f e) e fun _ => .nx e
theorem vs_drop {f : FO} (he : VO X W e f) (hs : swapsWith e none pos.line X.env = pure false := by rfl) : VS X W (.Expr e pos) (vDrop f) := ps_imp (ps_expr he hs) fun D σ H ⟨G, env, fp, pv, rs, w⟩ => ⟨G, env, fp, pv, rs, Post.ofR rs w fun s w v G1 H1 r e1 q1 nd fr =>
  w G1 σ H1 fp (Stp.of_ext e1) (rs.ext e1)⟩
abbrev Tgt := PyData → Env → Option Env
def gN (i : Nat) : Tgt := fun x e => if canSet e i = true then some (e.set i (.va (.f (.d x)))) else none
def Outs (ts : List Nat) (σ σ' : L2.St) : Prop := σ'.length = σ.length ∧ ∀ j, j ∉ ts → σ'[j]? = σ[j]?
def tG (K : PySem.W.Frag) (mg : Str → Option Value) (ts : List Nat) (g : Tgt) : TG := fun v σ H Q => ∃ G env fp pv x, RS K mg G σ env H fp pv ∧ Dq K G v x ∧ match g x env with
  | some e => ∀ σ' fp', (∀ i a, a ∈ fp' i → ∃ j, a ∈ fp j) → Outs ts σ σ' → RS K mg G σ' e H fp' pv → Q σ' H
  | none => False
abbrev VG (X : Cx) (ts : List Nat) (e : Expr) (g : Tgt) : Prop := PG X e (tG X.K X.mg ts g)
theorem vg_imp {i : Nat} {v : V} {σ : L2.St} {H : Hp} {Q : L2.St → Hp → Prop} (h : tG X.K X.mg [i] (gN i) v σ H Q) : gName i v σ H Q := by
  obtain ⟨G, env, fp, pv, x, rs, d, w⟩ := h
  unfold gN at w
  by_cases c : canSet env i = true
  · rw [if_pos c] at w
    refine w _ _ (fun j a m => ?_) ⟨List.length_set, fun j hj => List.getElem?_set_ne (fun q => hj (by rw [q]; exact List.mem_cons_self))⟩ (rs.set (canSet_lt c) (.f (.d d)) .nil (fun a m => by cases m))
    by_cases q : j = i
    · rw [if_pos q] at m; cases m
    · rw [if_neg q] at m; exact ⟨j, m⟩
  · rw [if_neg c] at w; exact w.elim
theorem vg_name {i : Nat} {x : Str} (hN : X.N.Nodup) (hi : X.N[i]? = some x) (hx : Loc X.env.scope x) (hf : X.fn x = true ∨ X.env.scope.names.lookup x = some .local) : VG X [i] (.Name x pos) (gN i) :=
  pg_imp (pg_name hN hi hx hf) fun v σ H Q h => vg_imp h
abbrev Tgts := List PyData → Env → Option Env
def gsN : Tgts := fun xs e => match xs with | [] => some e | _ => none
def gsC (g : Tgt) (r : Tgts) : Tgts := fun xs e => match xs with | x :: xs => (g x e).bind (r xs) | [] => none
def tGs (K : PySem.W.Frag) (mg : Str → Option Value) (ts : List Nat) (g : Tgts) : TGs := fun vs σ H Q => ∃ G env fp pv xs, RS K mg G σ env H fp pv ∧ Dqs K G vs xs ∧ match g xs env with
  | some e => ∀ σ' fp', (∀ i a, a ∈ fp' i → ∃ j, a ∈ fp j) → Outs ts σ σ' → RS K mg G σ' e H fp' pv → Q σ' H
  | none => False
theorem pgs_imp {t t' : TGs} (h : PGs X es t) (q : ∀ v σ H Q, t' v σ H Q → t v σ H Q) : PGs X es t' := ⟨fun pins s σ H v u Q I r w => h.run pins s σ H v u Q I r (q v σ H Q w)⟩
abbrev VGs (X : Cx) (ts : List Nat) (es : List Expr) (g : Tgts) : Prop := PGs X es (tGs X.K X.mg ts g)
theorem vgs_nil : VGs X [] [] gsN := pgs_imp pgs_nil fun vs σ H Q ⟨G, env, fp, pv, xs, rs, d, w⟩ => by
  cases d with
  | nil => exact ⟨rfl, w σ fp (fun i a m => ⟨i, m⟩) ⟨rfl, fun _ _ => rfl⟩ rs⟩
  | cons _ _ => exact w.elim
theorem vgs_cons {g : Tgt} {r : Tgts} {ts tr : List Nat} (h1 : VG X ts e g) (h2 : VGs X tr es r) (hs : (assignEach (e :: es) X.env).map (·.2) = assign e X.env :: (assignEach es X.env).map (·.2)) : VGs X (ts ++ tr) (e :: es) (gsC g r) :=
  pgs_imp (pgs_cons h1 h2 hs) fun vs σ H Q ⟨G, env, fp, pv, xs, rs, d, w⟩ => by
    cases d with
    | nil => exact w.elim
    | @cons v vs x xs h t =>
      refine ⟨v, vs, rfl, G, env, fp, pv, x, rs, h, ?_⟩
      have w' : match (g x env).bind (r xs) with | some e => ∀ σ' fp', (∀ i a, a ∈ fp' i → ∃ j, a ∈ fp j) → Outs (ts ++ tr) σ σ' → RS X.K X.mg G σ' e H fp' pv → Q σ' H | none => False := w
      cases z : g x env with
      | none => rw [z] at w'; exact w'.elim
      | some e1 =>
        rw [z] at w'
        intro σ' fp' hs ho rs'
        refine ⟨G, e1, fp', pv, xs, rs', t, ?_⟩
        have w2 : match r xs e1 with | some e => ∀ σ' fp', (∀ i a, a ∈ fp' i → ∃ j, a ∈ fp j) → Outs (ts ++ tr) σ σ' → RS X.K X.mg G σ' e H fp' pv → Q σ' H | none => False := w'
        cases z2 : r xs e1 with
        | none => rw [z2] at w2; exact w2.elim
        | some e2 =>
          rw [z2] at w2
          refine fun σ2 fp2 hs2 ho2 rs2 => w2 σ2 fp2 (fun i a m => ?_) ⟨ho2.1.trans ho.1, fun j hj => ?_⟩ rs2
          · obtain ⟨j, m1⟩ := hs2 i a m
            exact hs j a m1
          · rw [ho2.2 j fun m => hj (List.mem_append_right _ m)]
            exact ho.2 j fun m => hj (List.mem_append_left _ m)
def gT (n : Nat) (g : Tgts) : Tgt := fun x e => match x with
  | .tuple ds => if ds.length = n then g ds e else none
  | _ => none
theorem vg_tup {k n : Nat} {g : Tgts} {ts : List Nat} (hc : X.calm = true) (h : VGs X ts es g) (hn : (assignEach es X.env).length = n) (hst : (assignEach es X.env).findIdx? (·.1) = none) : VG X ts (.Tuple es k pos) (gT n g) :=
  pg_imp (pg_tup hc h hn hst) fun v σ H Q ⟨G, env, fp, pv, x, rs, d, w⟩ => by
    cases d with
    | @tup a vs ds h t =>
      have w' : match (if ds.length = n then g ds env else none) with | some e => ∀ σ' fp', (∀ i a, a ∈ fp' i → ∃ j, a ∈ fp j) → Outs ts σ σ' → RS X.K X.mg G σ' e H fp' pv → Q σ' H | none => False := w
      by_cases hl : ds.length = n
      · rw [if_pos hl] at w'
        exact ⟨_, _, rfl, sqt_mono rs.sub h, by rw [t.length]; exact hl, G, env, fp, pv, ds, rs, t, w'⟩
      · rw [if_neg hl] at w'; exact w'.elim
    | non => exact w.elim
    | bl _ => exact w.elim
    | int _ => exact w.elim
    | str _ => exact w.elim
    | lst _ _ => exact w.elim
end
end VL

set_option Elab.async false
set_option linter.all false
set_option maxRecDepth 100000
set_option maxHeartbeats 4000000
namespace VL
open PySem PySem.Spec PyProof.Rows L2

abbrev IT := Env → Res (List PyData)
def ItOk (K : PySem.W.Frag) (G B : Hp) (items : List PyData) (J : It) : Prop := ∀ G1 H1, Same G G1 → Same B H1 → Same G1 H1 →
  (∀ i, items.length ≤ i → J.stop i H1) ∧ ∀ i x, items[i]? = some x → J.go i H1 ∧ ∀ v H2, J.yld i H1 v H2 → ∃ G2, Ext G1 H1 G2 H2 ∧ Dq K G2 v x
def tItF (K : PySem.W.Frag) (mg : Str → Option Value) (W : WX) (f : IT) : TI := fun σ H R => ∃ G env fp pv, RS K mg G σ env H fp pv ∧
  PostR mg W σ H (fun items => ∀ J G' H', Ext G H G' H' → ItOk K G' G' items J → R J H') (f env)
def tItR (K : PySem.W.Frag) (mg : Str → Option Value) (W : WX) (f : IT) : TI := fun σ H R => ∃ G env fp pv, RS K mg G σ env H fp pv ∧
  PostR mg W σ H (fun items => ∀ J G' H', Ext G H G' H' → ItOk K G' H' items J → R J H') (f env)
abbrev VIF (X : Cx) (W : WX) (tg e : Expr) (f : IT) : Prop := PI X tg e (tItF X.K X.mg W f)
abbrev VIR (X : Cx) (W : WX) (tg e : Expr) (f : IT) : Prop := PI X tg e (tItR X.K X.mg W f)
section
variable {K : PySem.W.Frag} {G B : Hp} {ds es : List PyData} {vs ws : List V} {a b : Addr}
theorem ItOk.ofF {G H : Hp} {items : List PyData} {J : It} (s : Same G H) (h : ItOk K G G items J) : ItOk K G H items J := fun G1 H1 g b s1 => h G1 H1 g (s.trans b) s1
theorem it_list (h : SqL K B a vs) (t : Dqs K G vs ds) : ItOk K G B ds (Itl K a) := fun G1 H1 g b s => by
  have h1 := b.seq h
  refine ⟨fun i hi => ⟨vs, h1, by rw [t.length]; exact hi⟩, fun i x e => ?_⟩
  obtain ⟨v, hv, d⟩ := t.get e
  exact ⟨⟨vs, v, h1, hv⟩, fun u H2 ⟨e2, k⟩ => by
    have q := k vs h1
    rw [hv] at q
    cases q
    subst e2
    exact ⟨G1, Ext.refl s, d.mono g⟩⟩
theorem it_rev (h : SqL K B a vs) (t : Dqs K G vs ds) : ItOk K G B ds.reverse (Itv K a vs.length) := fun G1 H1 g b s => by
  have h1 := b.seq h
  refine ⟨fun i hi => by rw [List.length_reverse] at hi; show vs.length ≤ i; rw [t.length]; exact hi, fun i x e => ?_⟩
  have hi : i < ds.length := by
    have := (List.getElem?_eq_some_iff.mp e).1
    rwa [List.length_reverse] at this
  rw [List.getElem?_reverse hi] at e
  obtain ⟨v, hv, d⟩ := t.get e
  rw [← t.length] at hv hi
  exact ⟨⟨hi, vs, v, h1, hv⟩, fun u H2 ⟨e2, k⟩ => by
    have q := k vs h1
    rw [hv] at q
    cases q
    subst e2
    exact ⟨G1, Ext.refl s, d.mono g⟩⟩
def rngP (lo : Int) (n : Nat) : List PyData := (List.range n).map fun i => .int (lo + (i : Nat))
theorem it_rng {lo : Int} {n : Nat} : ItOk K G B (rngP lo n) (Itr lo n) := fun G1 H1 g b s => by
  have hl : (rngP lo n).length = n := by unfold rngP; rw [List.length_map, List.length_range]
  refine ⟨fun i hi => by rw [hl] at hi; exact hi, fun i x e => ?_⟩
  have hi : i < n := by rw [← hl]; exact (List.getElem?_eq_some_iff.mp e).1
  unfold rngP at e
  rw [List.getElem?_map, List.getElem?_range hi] at e
  cases e
  exact ⟨hi, fun u H2 ⟨e2, k⟩ => by
    subst e2 k
    exact ⟨G1, Ext.refl s, .int _⟩⟩
def enumP (k : Nat) : List PyData → List PyData
  | [] => []
  | x :: r => .tuple [.int (k : Nat), x] :: enumP (k + 1) r
theorem enumP_length : ∀ (k : Nat) (ds : List PyData), (enumP k ds).length = ds.length
  | _, [] => rfl
  | k, x :: r => by show (enumP (k + 1) r).length + 1 = r.length + 1; rw [enumP_length (k + 1) r]
theorem enumP_get : ∀ (k i : Nat) (ds : List PyData), (enumP k ds)[i]? = ds[i]?.map fun x => .tuple [.int ((k + i : Nat)), x]
  | _, _, [] => by simp [enumP]
  | k, 0, x :: r => rfl
  | k, i + 1, x :: r => by
    show (enumP (k + 1) r)[i]? = r[i]?.map _
    rw [enumP_get (k + 1) i r, show k + 1 + i = k + (i + 1) by omega]
theorem it_enum (h : SqL K B a vs) (t : Dqs K G vs ds) : ItOk K G B (enumP 0 ds) (Ite K a) := fun G1 H1 g b s => by
  have h1 := b.seq h
  refine ⟨fun i hi => ⟨vs, h1, by rw [t.length]; rw [enumP_length] at hi; exact hi⟩, fun i x e => ?_⟩
  rw [enumP_get] at e
  cases z : ds[i]? with
  | none => rw [z] at e; cases e
  | some d0 =>
    rw [z] at e
    cases e
    obtain ⟨v, hv, d⟩ := t.get z
    refine ⟨⟨vs, v, h1, hv⟩, fun u H2 ⟨T, y, e1, hT, e2, k⟩ => ?_⟩
    have q := k vs h1
    rw [hv] at q
    cases q
    subst e1 e2
    have ex := Ext.new (o := .tup [V.int (i : Nat), v]) s hT
    exact ⟨_, ex, .tup (SqT.of upd_same) (.cons (by rw [Nat.zero_add]; exact .int _) (.cons ((d.mono g).mono ex.g) .nil))⟩
def zipP : List PyData → List PyData → List PyData
  | x :: r, y :: s => .tuple [x, y] :: zipP r s
  | _, _ => []
theorem zipP_length : ∀ ds es : List PyData, (zipP ds es).length = min ds.length es.length
  | [], es => by simp [zipP]
  | x :: r, [] => by simp [zipP]
  | x :: r, y :: s => by
    show (zipP r s).length + 1 = min (r.length + 1) (s.length + 1)
    rw [zipP_length r s]
    omega
theorem zipP_get : ∀ (i : Nat) (ds es : List PyData) (x : PyData), (zipP ds es)[i]? = some x → ∃ a b, ds[i]? = some a ∧ es[i]? = some b ∧ x = .tuple [a, b]
  | i, [], es, x, h => by simp [zipP] at h
  | i, _ :: _, [], x, h => by simp [zipP] at h
  | 0, a :: r, b :: s, x, h => ⟨a, b, rfl, rfl, (Option.some.inj h).symm⟩
  | i + 1, a :: r, b :: s, x, h => zipP_get i r s x h
theorem it_zip (h : SqL K B a vs) (t : Dqs K G vs ds) (h' : SqL K B b ws) (t' : Dqs K G ws es) : ItOk K G B (zipP ds es) (Itz K a b) := fun G1 H1 g b s => by
  have h1 := b.seq h
  have h2 := b.seq h'
  refine ⟨fun i hi => ⟨vs, ws, h1, h2, by rw [t.length, t'.length]; rw [zipP_length] at hi; omega⟩, fun i x e => ?_⟩
  obtain ⟨p, q, e1, e2, rfl⟩ := zipP_get i ds es x e
  obtain ⟨v, hv, d⟩ := t.get e1
  obtain ⟨w, hw, d'⟩ := t'.get e2
  refine ⟨⟨vs, ws, v, w, h1, h2, hv, hw⟩, fun u H2 ⟨T, y, z, f1, hT, f2, k1, k2⟩ => ?_⟩
  have q1 := k1 vs h1
  have q2 := k2 ws h2
  rw [hv] at q1
  rw [hw] at q2
  cases q1
  cases q2
  subst f1 f2
  have ex := Ext.new (o := .tup [v, w]) s hT
  exact ⟨_, ex, .tup (SqT.of upd_same) (.cons ((d.mono g).mono ex.g) (.cons ((d'.mono g).mono ex.g) .nil))⟩
end

section
variable {X : Cx} {W : WX} {a b c e tg : Expr} {es : List Expr} {pos : Pos} {st : Stmt} {sts : List Stmt}
def asL : PyData → Res (List PyData)
  | .list ds => .ok ds
  | _ => .bad
def vItL (f : FD) : IT := v1 asL f
def vItRev (f : FD) : IT := v1 (fun x => (asL x).bind fun ds => .ok ds.reverse) f
def vItEnum (f : FD) : IT := v1 (fun x => (asL x).bind fun ds => .ok (enumP 0 ds)) f
def vItZip (f g : FD) : IT := v2 (fun x y => (asL x).bind fun ds => (asL y).bind fun es => .ok (zipP ds es)) f g
noncomputable def rng1 : PyData → Res (List PyData)
  | .int j => cIf (-4611686018427387904 ≤ j ∧ j < 4611686018427387904) (.ok (rngP 0 j.toNat)) .bad
  | _ => .bad
noncomputable def rng2 : PyData → PyData → Res (List PyData)
  | .int i, .int j => cIf (-4611686018427387904 ≤ i ∧ i < 4611686018427387904 ∧ -4611686018427387904 ≤ j ∧ j < 4611686018427387904) (.ok (rngP i (j - i).toNat)) .bad
  | _, _ => .bad
theorem vif_vir {f : IT} (h : VIF X W tg e f) : VIR X W tg e f := pi_imp h fun σ H R ⟨G, env, fp, pv, rs, w⟩ => ⟨G, env, fp, pv, rs, PostR.imp w (Same.refl _) fun items w J G' H' ex it => w J G' H' ex (it.ofF ex.s)⟩
theorem asL_ok {α : Type} {mg : Str → Option Value} {σ : L2.St} {H : Hp} {j : α → Prop} {x : PyData} {k : List PyData → Res α} (w : PostR mg W σ H j ((asL x).bind k)) : ∃ ds, x = .list ds ∧ PostR mg W σ H j (k ds) := by
  cases x with
  | list ds => exact ⟨ds, rfl, w⟩
  | none => exact w.elim
  | bool _ => exact w.elim
  | int _ => exact w.elim
  | str _ => exact w.elim
  | tuple _ => exact w.elim
  | dict _ => exact w.elim
theorem asL_ok1 {mg : Str → Option Value} {σ : L2.St} {H : Hp} {j : List PyData → Prop} {x : PyData} (w : PostR mg W σ H j (asL x)) : ∃ ds, x = .list ds ∧ j ds := by
  cases x with
  | list ds => exact ⟨ds, rfl, w⟩
  | none => exact w.elim
  | bool _ => exact w.elim
  | int _ => exact w.elim
  | str _ => exact w.elim
  | tuple _ => exact w.elim
  | dict _ => exact w.elim
theorem Dq.lst' {K : PySem.W.Frag} {G : Hp} {v : V} {ds : List PyData} (h : Dq K G v (.list ds)) : ∃ a vs, v = .ref a ∧ G a = some (.lst vs) ∧ Dqs K G vs ds := by
  cases h with | lst h t => exact ⟨_, _, rfl, h, t⟩
theorem vir_list {f : FD} (h : VD X W e f) : VIR X W tg e (vItL f) := pi_imp (pi_list h) fun σ H R ⟨G, env, fp, pv, rs, w⟩ => ⟨G, env, fp, pv, rs, PostR.seq w fun x w v G1 H1 e1 q1 => by
  obtain ⟨ds, rfl, w⟩ := asL_ok1 w
  obtain ⟨p, vs, rfl, h1, t1⟩ := q1.lst e1.s
  exact ⟨p, rfl, ⟨vs, SqL.of h1⟩, w _ G1 H1 e1 (it_list (SqL.of h1) t1)⟩⟩
theorem toD_ok {α : Type} {K : PySem.W.Frag} {mg : Str → Option Value} {σ : L2.St} {G H : Hp} {v : V} {x : FV} {j : α → Prop} {k : PyData → Res α} (q : Fq K mg G v x) (w : PostR mg W σ H j ((match x with | .d p => Res.ok p | _ => .bad).bind k)) : ∃ p, Dq K G v p ∧ PostR mg W σ H j (k p) := by
  cases q with
  | d q => exact ⟨_, q, w⟩
  | ob _ _ _ => exact w.elim
  | sc _ => exact w.elim
theorem toD_seq {α : Type} {mg : Str → Option Value} {σ : L2.St} {H : Hp} {j : α → Prop} {f : FP} {k : PyData → Res α} {env : Env} (w : PostR mg W σ H j ((toD f env).bind k)) : PostR mg W σ H j ((f env).bind fun x => (match x with | .d p => Res.ok p | _ => .bad).bind k) := by
  unfold toD at w
  cases z : f env with
  | ok x => rw [z] at w; exact w
  | err c => rw [z] at w; exact w
  | bad => rw [z] at w; exact w
theorem vif_list {f : FP} (h : VP X W e f) : VIF X W tg e (vItL (toD f)) := pi_imp (pi_list h) fun σ H R ⟨G, env, fp, pv, rs, w⟩ => ⟨G, env, fp, pv, rs, PostR.seq (toD_seq w) fun x w v G1 H1 e1 q1 => by
  obtain ⟨p, q1, w⟩ := toD_ok q1 w
  obtain ⟨ds, rfl, w⟩ := asL_ok1 w
  obtain ⟨p, vs, rfl, h1, t1⟩ := q1.lst'
  exact ⟨p, rfl, ⟨vs, SqL.of (e1.s _ _ h1)⟩, w _ G1 H1 e1 (it_list (SqL.of h1) t1)⟩⟩
theorem vif_rev {f : FP} {p : Pos} (hm : X.mg "reversed" = none) (h : VP X W e f) (hg : Gl X "reversed" := by rfl) (hs : starEach [e] X.env = [(false, eval e X.env)] := by rfl) : VIF X W tg (.Call (.Name "reversed" p) [e] [] pos) (vItRev (toD f)) :=
  pi_imp (pi_reversed hg hm (pa_cons h pa_nil hs) hs) fun σ H R ⟨G, env, fp, pv, rs, w⟩ => ⟨G, env, fp, pv, rs, PostR.seq (toD_seq w) fun x w v G1 H1 e1 q1 => by
    obtain ⟨p, q1, w⟩ := toD_ok q1 w
    obtain ⟨ds, rfl, w⟩ := asL_ok w
    obtain ⟨p, vs, rfl, h1, t1⟩ := q1.lst'
    exact ⟨p, vs, rfl, SqL.of (e1.s _ _ h1), w _ G1 H1 e1 (it_rev (SqL.of h1) t1)⟩⟩
theorem vif_enum {f : FP} {elts : List Expr} {kk : Nat} {tpos p : Pos} (hm : X.mg "enumerate" = none) (h : VP X W e f) (hg : Gl X "enumerate" := by rfl) (hs : starEach [e] X.env = [(false, eval e X.env)] := by rfl) : VIF X W (.Tuple elts kk tpos) (.Call (.Name "enumerate" p) [e] [] pos) (vItEnum (toD f)) :=
  pi_imp (pi_enum hg hm (pa_cons h pa_nil hs) hs) fun σ H R ⟨G, env, fp, pv, rs, w⟩ => ⟨G, env, fp, pv, rs, PostR.seq (toD_seq w) fun x w v G1 H1 e1 q1 => by
    obtain ⟨p, q1, w⟩ := toD_ok q1 w
    obtain ⟨ds, rfl, w⟩ := asL_ok w
    obtain ⟨p, vs, rfl, h1, t1⟩ := q1.lst'
    exact ⟨p, vs, rfl, SqL.of (e1.s _ _ h1), w _ G1 H1 e1 (it_enum (SqL.of h1) t1)⟩⟩
theorem vir_enum {f : FD} {elts : List Expr} {kk : Nat} {tpos p : Pos} (hm : X.mg "enumerate" = none) (h : VD X W e f) (hg : Gl X "enumerate" := by rfl) (hs : starEach [e] X.env = [(false, eval e X.env)] := by rfl) : VIR X W (.Tuple elts kk tpos) (.Call (.Name "enumerate" p) [e] [] pos) (vItEnum f) :=
  pi_imp (pi_enum hg hm (pa_cons h pa_nil hs) hs) fun σ H R ⟨G, env, fp, pv, rs, w⟩ => ⟨G, env, fp, pv, rs, PostR.seq w fun x w v G1 H1 e1 q1 => by
    obtain ⟨ds, rfl, w⟩ := asL_ok w
    obtain ⟨p, vs, rfl, h1, t1⟩ := q1.lst e1.s
    exact ⟨p, vs, rfl, SqL.of h1, w _ G1 H1 e1 (it_enum (SqL.of h1) t1)⟩⟩
theorem vif_zip {f g : FP} {elts : List Expr} {kk : Nat} {tpos p : Pos} (hm : X.mg "zip" = none) (ha : VP X W a f) (hb : VP X W b g) (hg : Gl X "zip" := by rfl) (hs : starEach [a, b] X.env = (false, eval a X.env) :: starEach [b] X.env := by rfl) (hs2 : starEach [b] X.env = (false, eval b X.env) :: starEach [] X.env := by rfl)
    (hpl : (backTo pos (starEach [b] X.env)).any (·.1) = false := by rfl) : VIF X W (.Tuple elts kk tpos) (.Call (.Name "zip" p) [a, b] [] pos) (vItZip (toD f) (toD g)) :=
  pi_imp (pi_zip hg hm (pa_cons ha (pa_cons hb pa_nil hs2) hs) hs hpl) fun σ H R ⟨G, env, fp, pv, rs, w⟩ => ⟨G, env, fp, pv, rs, PostR.seq (toD_seq w) fun x w v G1 H1 e1 q1 => by
    obtain ⟨y, q1, w⟩ := toD_ok q1 w
    refine ⟨G1, env, fp, pv, rs.ext e1, PostR.imp (PostR.seq (k := fun z => PostR X.mg W σ H _ _) (toD_seq w) fun z w => w) e1.h fun z w u G2 H2 e2 q2 => ?_⟩
    obtain ⟨z, q2, w⟩ := toD_ok q2 w
    obtain ⟨ds, ed, w1⟩ := asL_ok w
    obtain ⟨es, ee, w⟩ := asL_ok w1
    subst ed ee
    obtain ⟨p, vs, rfl, h1, t1⟩ := (q1.mono e2.g).lst'
    obtain ⟨p', ws, rfl, h2, t2⟩ := q2.lst'
    exact ⟨p, p', vs, ws, rfl, SqL.of (e2.s _ _ h1), SqL.of (e2.s _ _ h2), w _ G2 H2 (e1.trans e2) (it_zip (SqL.of h1) t1 (SqL.of h2) t2)⟩⟩
theorem vir_zip {f g : FD} {elts : List Expr} {kk : Nat} {tpos p : Pos} (hm : X.mg "zip" = none) (ha : VD X W a f) (hb : VD X W b g) (hg : Gl X "zip" := by rfl) (hs : starEach [a, b] X.env = (false, eval a X.env) :: starEach [b] X.env := by rfl) (hs2 : starEach [b] X.env = (false, eval b X.env) :: starEach [] X.env := by rfl)
    (hpl : (backTo pos (starEach [b] X.env)).any (·.1) = false := by rfl) : VIR X W (.Tuple elts kk tpos) (.Call (.Name "zip" p) [a, b] [] pos) (vItZip f g) :=
  pi_imp (pi_zip hg hm (pa_cons ha (pa_cons hb pa_nil hs2) hs) hs hpl) fun σ H R ⟨G, env, fp, pv, rs, w⟩ => ⟨G, env, fp, pv, rs, PostR.seq w fun y w v G1 H1 e1 q1 => by
    refine ⟨G1, env, fp, pv, rs.ext e1, PostR.imp (PostR.seq (k := fun z => PostR X.mg W σ H _ _) w fun z w => w) e1.h fun z w u G2 H2 e2 q2 => ?_⟩
    obtain ⟨ds, ed, w1⟩ := asL_ok w
    obtain ⟨es, ee, w⟩ := asL_ok w1
    subst ed ee
    obtain ⟨p, vs, rfl, h1, t1⟩ := (q1.mono e2.g e2.h).lst e2.s
    obtain ⟨p', ws, rfl, h2, t2⟩ := q2.lst e2.s
    exact ⟨p, p', vs, ws, rfl, SqL.of h1, SqL.of h2, w _ G2 H2 (e1.trans e2) (it_zip (SqL.of h1) t1 (SqL.of h2) t2)⟩⟩
theorem vif_rng1 {f : FD} {p : Pos} (hm : X.mg "range" = none) (ha : VD X W a f) (hg : Gl X "range" := by rfl) (hs : starEach [a] X.env = [(false, eval a X.env)] := by rfl) : VIF X W tg (.Call (.Name "range" p) [a] [] pos) (v1 rng1 f) :=
  pi_imp (pi_range1 hg hm (pa_cons ha pa_nil hs) hs) fun σ H R ⟨G, env, fp, pv, rs, w⟩ => ⟨G, env, fp, pv, rs, PostR.seq w fun x w v G1 H1 e1 q1 => by
    unfold rng1 cIf at w
    split at w
    · split at w
      · rename_i hj
        exact ⟨_, by rw [q1.int], by have := hj.1; omega, by have := hj.2; omega, w _ G1 H1 e1 it_rng⟩
      · exact w.elim
    · exact w.elim⟩
theorem vif_rng2 {f g : FD} {p : Pos} (hm : X.mg "range" = none) (ha : VD X W a f) (hb : VD X W b g) (hg : Gl X "range" := by rfl) (hs : starEach [a, b] X.env = [(false, eval a X.env), (false, eval b X.env)] := by rfl) (hs2 : starEach [b] X.env = [(false, eval b X.env)] := by rfl) : VIF X W tg (.Call (.Name "range" p) [a, b] [] pos) (v2 rng2 f g) :=
  pi_imp (pi_range2 hg hm (pa_cons ha (pa_cons hb pa_nil hs2) (by rw [hs, hs2])) hs hs2) fun σ H R ⟨G, env, fp, pv, rs, w⟩ => ⟨G, env, fp, pv, rs, PostR.seq w fun x w v G1 H1 e1 q1 => by
    refine ⟨G1, env, fp, pv, rs.ext e1, PostR.imp (PostR.seq (k := fun z => PostR X.mg W σ H _ _) w fun z w => w) e1.h fun z w u G2 H2 e2 q2 => ?_⟩
    unfold rng2 cIf at w
    split at w
    · split at w
      · rename_i hj
        exact ⟨_, _, by rw [q1.int, q2.int], ⟨by have := hj.1; omega, by have := hj.2.1; omega, by have := hj.2.2.1; omega, by have := hj.2.2.2; omega⟩, w _ G2 H2 (e1.trans e2) it_rng⟩
      · exact w.elim
    · exact w.elim⟩

def forL (g : Tgt) (body : ST) : List PyData → ST
  | [] => fun e => .nx e
  | x :: xs => fun e => match g x e with
    | some e1 => match body e1 with
      | .nx e2 => forL g body xs e2
      | r => r
    | none => .bad
def vFor (it : IT) (g : Tgt) (body : ST) : ST := fun e => ofR (it e) e fun items => forL g body items e
theorem vs_for {it : IT} {g : Tgt} {ts : List Nat} {body : ST} {B : List Stmt} (hp : PassesOwn (model X.prog X.w) X.A X.env X.xe) (hc : X.calm = true) (hi : VIF X W tg e it) (hg : VG X ts tg g) (hb : VSs X W B body) (hs : ∀ x, foldedSetIterable e X.env x = pure x := by intro _; rfl) :
    VS X W (.For tg e B [] pos) (vFor it g body) := ps_imp (ps_for hp hc hi hg hb hs) fun D σ H ⟨G, env, fp, pv, rs, w⟩ => ⟨G, env, fp, pv, rs, Post.ofR rs w fun items w J G1 H1 e1 io => by
  refine ⟨fun i m σ H => m + i = items.length ∧ ∃ G env fp pv, RS X.K X.mg G σ env H fp pv ∧ Same G1 G ∧ Post X.K X.mg W D G H fp pv (forL g body (items.drop i) env),
    ⟨items.length, by omega, G1, env, fp, pv, rs.ext e1, Same.refl _, w.step (Stp.of_ext e1)⟩, ?_⟩
  rintro i m σ2 H2 ⟨em, G2, env2, fp2, pv2, rs2, s2, w2⟩
  obtain ⟨hstop, hgo⟩ := io G2 H2 s2 (s2.trans rs2.sub) rs2.sub
  by_cases hlt : i < items.length
  · right
    have ei : items[i]? = some items[i] := List.getElem?_eq_getElem hlt
    obtain ⟨go, yl⟩ := hgo i _ ei
    refine ⟨go, fun σ' H' => ∃ G env fp pv, RS X.K X.mg G σ' env H' fp pv ∧ Same G1 G ∧ Post X.K X.mg W D G H' fp pv (forL g body (items.drop (i + 1)) env), fun σ' H' hN => ⟨m - 1, by omega, by omega, hN⟩, fun x H3 hy => ?_⟩
    obtain ⟨G3, e3, d3⟩ := yl x H3 hy
    rw [List.drop_eq_getElem_cons hlt] at w2
    have rs3 := rs2.ext e3
    have w3 := w2.step (Stp.of_ext e3)
    refine ⟨G3, env2, fp2, pv2, items[i], rs3, d3, ?_⟩
    unfold forL at w3
    cases z : g items[i] env2 with
    | none => rw [z] at w3; exact w3.elim
    | some e4 =>
      rw [z] at w3
      intro σ4 fp4 h4 _ rs4
      refine ⟨G3, e4, fp4, pv2, rs4, ?_⟩
      have st4 : Stp G3 H3 fp2 G3 H3 fp4 := Stp.sub (Stp.refl (fp := fp2) rs3.sub) fun i a m => .inr (h4 i a m)
      have w4 := Post.step st4 w3
      dsimp only at w4
      cases z5 : body e4 with
      | nx e5 =>
        rw [z5] at w4
        exact fun G5 σ5 H5 fp5 st5 rs5 => ⟨G5, e5, fp5, pv2, rs5, (s2.trans e3.g).trans st5.g, w4.step st5⟩
      | rt v e5 => rw [z5] at w4; exact w4
      | err c e5 => rw [z5] at w4; exact w4
      | bad => rw [z5] at w4; exact w4
  · left
    have ei : items.drop i = [] := List.drop_eq_nil_iff.mpr (by omega)
    rw [ei] at w2
    exact ⟨hstop i (by omega), w2 G2 σ2 H2 fp2 (Stp.refl rs2.sub) rs2⟩⟩
def wipeE (e : Env) : List Nat → Env
  | [] => e
  | v :: vs => (wipeE e vs).set v .no
def noE {α : Type} : Res α → Res α
  | .ok a => .ok a
  | _ => .bad
theorem noE_ok {α : Type} {mg : Str → Option Value} {σ σ' : L2.St} {H H' : Hp} {W' : WX} {j k : α → Prop} {r : Res α} (w : PostR mg W σ H j (noE r)) (q : ∀ a, j a → k a) : PostR mg W' σ' H' k r := by
  cases r with
  | ok a => exact q a w
  | err c => exact w.elim
  | bad => exact w.elim
def compL (g : Tgt) (t : FT) (elt : FO) (env : Env) : List PyData → Res (List SV)
  | [] => .ok []
  | x :: xs => match g x env with
    | none => .bad
    | some e1 => (noE (t e1)).bind fun b => if b = true then (noE (elt e1)).bind fun y => (compL g t elt env xs).bind fun ys => .ok (y :: ys) else compL g t elt env xs
noncomputable def vComp (it : IT) (g : Tgt) (t : FT) (elt : FO) (vs : List Nat) : FO := fun env => (it env).bind fun items => cIf (items.length ≤ 16777216) ((compL g t elt (wipeE env vs) items).bind fun ys => .ok (.own ys)) .bad
abbrev VTs (X : Cx) (W : WX) (es : List Expr) (f : FT) : Prop := PTs X es (tT X.K X.mg W f)
def vYes : FT := fun _ => .ok true
theorem pts_imp {t t' : TT} (h : PTs X es t) (q : ∀ σ H Q, t' σ H Q → t σ H Q) : PTs X es t' := ⟨fun pins s σ H Q I w => h.run pins s σ H Q I (q σ H Q w)⟩
theorem vts_nil : VTs X W [] vYes := pts_imp pts_nil fun σ H Q ⟨G, env, fp, pv, rs, w⟩ => w G H (Ext.refl rs.sub)
theorem vts_one {f : FT} (h : VT X W c f) : VTs X W [c] f := pts_one h
theorem RS.wipe {K : PySem.W.Frag} {mg : Str → Option Value} {G H : Hp} {σ : L2.St} {env : Env} {fp : Nat → List Addr} {pv : Nat → V} (h : RS K mg G σ env H fp pv) : ∀ vs : List Nat, ∃ fp', RS K mg G (wipe σ vs) (wipeE env vs) H fp' pv
  | [] => ⟨fp, h⟩
  | v :: vs => by
    obtain ⟨fp', q⟩ := RS.wipe h vs
    have d := q.drop v
    refine ⟨_, ⟨?_, fun j u e => ?_, d.nil, d.sub, d.out, d.nd, d.dj⟩⟩
    · show ((wipeE env vs).set v .no).length = ((L2.wipe σ vs).set v none).length
      rw [List.length_set, List.length_set]; exact q.len
    · have r := d.rel j u e
      show slotOk _ _ _ _ _ ((L2.wipe σ vs).set v none)[j]? _ _
      by_cases hj : j = v
      · subst hj
        have e' : ((wipeE env vs).set j .no)[j]? = some u := e
        by_cases hl : j < (wipeE env vs).length
        · rw [List.getElem?_set_self hl] at e'
          cases e'
          exact r
        · rw [List.getElem?_eq_none (by rw [List.length_set]; omega)] at e'; cases e'
      · rw [List.getElem?_set_ne (Ne.symm hj)]
        exact r
theorem wipe_out {σ σ' : L2.St} {ts : List Nat} (h : Outs ts σ σ') : ∀ vs : List Nat, (∀ j ∈ ts, j ∈ vs) → wipe σ' vs = wipe σ vs := by
  have key : ∀ (vs : List Nat) (σ : L2.St) (j : Nat), (wipe σ vs)[j]? = if j ∈ vs then (if j < σ.length then some none else none) else σ[j]? := by
    intro vs σ
    induction vs with
    | nil => intro j; simp [wipe]
    | cons v vs ih =>
      intro j
      unfold wipe
      by_cases hj : j = v
      · subst hj
        rw [if_pos List.mem_cons_self]
        by_cases hl : j < σ.length
        · rw [if_pos hl, List.getElem?_set_self (by rw [wipe_length]; exact hl)]
        · rw [if_neg hl, List.getElem?_eq_none (by rw [List.length_set, wipe_length]; omega)]
      · rw [List.getElem?_set_ne (Ne.symm hj), ih j]
        by_cases hm : j ∈ vs
        · rw [if_pos hm, if_pos (List.mem_cons_of_mem _ hm)]
        · rw [if_neg hm, if_neg (by simp [hj, hm])]
  intro vs hv
  apply List.ext_getElem?
  intro j
  rw [key, key, h.1]
  by_cases hm : j ∈ vs
  · rw [if_pos hm, if_pos hm]
  · rw [if_neg hm, if_neg hm]
    exact h.2 j fun m => hm (hv j m)
theorem wipe_wipe (σ : L2.St) (vs : List Nat) : wipe (wipe σ vs) vs = wipe σ vs := wipe_out (ts := vs) ⟨wipe_length σ vs, fun j hj => by
  induction vs with
  | nil => rfl
  | cons v vs ih =>
    unfold wipe
    rw [List.getElem?_set_ne (fun q => hj (by rw [q]; exact List.mem_cons_self))]
    exact ih fun m => hj (List.mem_cons_of_mem _ m)⟩ vs fun j m => m
theorem Ows.append {K : PySem.W.Frag} {mg : Str → Option Value} {G H : Hp} : ∀ {vs ws : List V} {xs ys : List SV} {r s : List Addr}, Ows K mg G H vs xs r → Ows K mg G H ws ys s → Ows K mg G H (vs ++ ws) (xs ++ ys) (r ++ s)
  | _, _, _, _, _, _, .nil, q => q
  | _, _, _, _, _, _, @Ows.cons _ _ _ _ v vs x xs r rs h t, q => by
    rw [List.append_assoc]
    exact .cons h (Ows.append t q)
theorem imp_comp {it : IT} {g : Tgt} {ts : List Nat} {t : FT} {elt : FO} {vs : List Nat} (hts : ∀ j ∈ ts, j ∈ vs) {σ : L2.St} {H : Hp} {Q : VK} (h : tO X.K X.mg W (vComp it g t elt vs) σ H Q) :
    tLc (tItR X.K X.mg W it) (tG X.K X.mg ts g) (tT X.K X.mg (fun _ _ _ _ => False) t) (tO X.K X.mg (fun _ _ _ _ => False) elt) vs σ H Q := by
  obtain ⟨G, env, fp, pv, rs, w⟩ := h
  refine ⟨G, env, fp, pv, rs, PostR.seq w fun items w J G1 H1 e1 io D hD => ?_⟩
  by_cases hsz : items.length ≤ 16777216
  · rw [cIf_pos hsz] at w
    have w0 := PostR.seq (k := fun ys => jO X.K X.mg Q G H (.own ys)) w fun ys q => q
    let Cst : Nat → Hp → Hp → Prop := fun i G2 H2 => ∃ accV accS r, Ext G1 H1 G2 H2 ∧ H2 D = some (.lst accV) ∧ G2 D = none ∧ Ows X.K X.mg G2 H2 accV accS r ∧ r.Nodup ∧ D ∉ r ∧ (∀ a ∈ r, H1 a = none ∧ G2 a = none) ∧
      PostR X.mg W σ H (fun ys => jO X.K X.mg Q G H (.own (accS ++ ys))) (compL g t elt (wipeE env vs) (items.drop i)) ∧ accV.length ≤ i
    have hG1 : G1 D = none := none_back e1.s hD
    refine ⟨fun i m H2 => m + i = items.length ∧ ∃ G2, Cst i G2 H2, ⟨items.length, by omega, G1, [], [], [], Ext.newO e1.s hD, upd_same, hG1, .nil, .nil, (by simp), (fun a m => by cases m), w0, Nat.zero_le _⟩, ?_⟩
    rintro i m H2 ⟨em, G2, accV, accS, r, e2, hD2, hG2, ow2, nd2, nD2, fr2, w2, hl2⟩
    obtain ⟨hstop, hgo⟩ := io G2 H2 e2.g e2.h e2.s
    by_cases hlt : i < items.length
    · right
      have ei : items[i]? = some items[i] := List.getElem?_eq_getElem hlt
      obtain ⟨go, yl⟩ := hgo i _ ei
      refine ⟨go, fun H' => ∃ G2, Cst (i + 1) G2 H', fun H' hN => ⟨m - 1, by omega, by omega, hN⟩, fun x H3 hy => ?_⟩
      obtain ⟨G3, e3, d3⟩ := yl x H3 hy
      rw [List.drop_eq_getElem_cons hlt] at w2
      obtain ⟨fpw, rsw⟩ := (rs.ext (e1.trans (e2.trans e3))).wipe vs
      refine ⟨G3, wipeE env vs, fpw, pv, items[i], rsw, d3, ?_⟩
      unfold compL at w2
      cases z : g items[i] (wipeE env vs) with
      | none => rw [z] at w2; exact w2.elim
      | some e4 =>
        rw [z] at w2
        intro σ4 fp4 h4 ho rs4
        refine ⟨(wipe_out ho vs hts).trans (wipe_wipe σ vs), G3, e4, fp4, pv, rs4, ?_⟩
        have w3 := PostR.seq (k := fun b => PostR X.mg W σ H _ (if b = true then _ else _)) w2 fun b q => q
        refine noE_ok w3 fun b w4 G5 H5 e5 => ?_
        cases b with
        | false =>
          rw [if_neg Bool.false_ne_true] at w4 ⊢
          have ex : Ext G2 H2 G5 H5 := e3.trans e5
          refine ⟨G5, accV, accS, r, e2.trans ex, ex.h _ _ hD2, ?_, ow2.mono ex.g (fun a m => ?_), nd2, nD2, fun a m => ⟨(fr2 a m).1, ?_⟩, w4, Nat.le_succ_of_le hl2⟩
          · cases q : G5 D with
            | none => rfl
            | some o =>
              rcases ex.n D o q with q | q
              · rw [hG2] at q; cases q
              · rw [hD2] at q; cases q
          · obtain ⟨o, ho⟩ := ow2.there a m
            rw [ho]; exact ex.h _ _ ho
          · cases q : G5 a with
            | none => rfl
            | some o =>
              obtain ⟨u, hu⟩ := ow2.there a m
              rcases ex.n a o q with q | q
              · rw [(fr2 a m).2] at q; cases q
              · rw [hu] at q; cases q
        | true =>
          rw [if_pos rfl] at w4 ⊢
          refine ⟨G5, e4, fp4, pv, rs4.ext e5, ?_⟩
          have w5 := PostR.seq (k := fun y => PostR X.mg W σ H _ ((compL g t elt (wipeE env vs) (items.drop (i + 1))).bind _)) w4 fun b q => q
          refine noE_ok w5 fun y w6 v G6 H6 r6 e6 ow6 nd6 fr6 => ?_
          have ex : Ext G2 H2 G6 H6 := (e3.trans e5).trans e6
          have ex5 : Ext G2 H2 G5 H5 := e3.trans e5
          have hD6 := ex.h _ _ hD2
          have nG : ∀ a u, H2 a = some u → G2 a = none → G6 a = none := fun a u hu hg => by
            cases q : G6 a with
            | none => rfl
            | some o =>
              rcases ex.n a o q with q | q
              · rw [hg] at q; cases q
              · rw [hu] at q; cases q
          have hG6 : G6 D = none := nG D _ hD2 hG2
          refine ⟨accV, hD6, ?_, G6, accV ++ [v], accS ++ [y], r ++ (r6 ++ []), ?_, upd_same, hG6, ?_, ?_, ?_, ?_, ?_, ?_⟩
          · rw [sl_eq]; omega
          · have E := e2.trans ex
            refine ⟨E.g, fun b o hb => ?_, fun b o hb => ?_, E.n⟩
            · rw [upd_ne (ne_of_none hb hD)]; exact E.h b o hb
            · rw [upd_ne (ne_of_none hb hG6)]; exact E.s b o hb
          · refine (ow2.mono ex.g fun a m => ?_).append (.cons (ow6.mono (Same.refl _) fun a m => ?_) .nil)
            · obtain ⟨o, ho⟩ := ow2.there a m
              rw [upd_ne (fun q => nD2 (by rw [← q]; exact m)), ho]
              exact ex.h _ _ ho
            · rw [upd_ne (fun q => ?_)]
              have z1 := (fr6 a m).1
              rw [q, ex5.h _ _ hD2] at z1
              cases z1
          · rw [List.append_nil]
            refine List.nodup_append.mpr ⟨nd2, nd6, fun a m b m' q => ?_⟩
            subst q
            obtain ⟨o, ho⟩ := ow2.there a m
            have z1 := (fr6 a m').1
            rw [ex5.h _ _ ho] at z1
            cases z1
          · rw [List.append_nil]
            intro m
            rcases List.mem_append.mp m with m | m
            · exact nD2 m
            · have z1 := (fr6 D m).1
              rw [ex5.h _ _ hD2] at z1
              cases z1
          · rw [List.append_nil]
            intro a m
            rcases List.mem_append.mp m with m | m
            · obtain ⟨o, ho⟩ := ow2.there a m
              exact ⟨(fr2 a m).1, nG a o ho (fr2 a m).2⟩
            · exact ⟨none_back ((e2.trans ex5).h) (fr6 a m).1, (fr6 a m).2⟩
          · have w7 := PostR.seq (k := fun ys => jO X.K X.mg Q G H (.own (accS ++ (y :: ys)))) w6 fun ys q => q
            refine PostR.imp w7 (Same.refl _) fun ys q => ?_
            rw [List.append_assoc]
            exact q
          · rw [List.length_append]
            show accV.length + 1 ≤ i + 1
            omega
    · left
      have ei : items.drop i = [] := List.drop_eq_nil_iff.mpr (by omega)
      rw [ei] at w2
      have w3 : jO X.K X.mg Q G H (.own (accS ++ [])) := w2
      rw [List.append_nil] at w3
      refine ⟨hstop i (by omega), w3 (.ref D) G2 H2 (D :: r) (e1.trans e2) (.own hD2 ow2) (List.nodup_cons.mpr ⟨nD2, nd2⟩) fun a m => ?_⟩
      rcases List.mem_cons.mp m with rfl | m
      · exact ⟨none_back e1.h hD, hG2⟩
      · exact ⟨none_back e1.h (fr2 a m).1, (fr2 a m).2⟩
  · rw [cIf_neg hsz] at w; exact w.elim
theorem vo_comp {it : IT} {g : Tgt} {ts : List Nat} {t : FT} {elt : FO} {own : List (Str × Nat)} {el : Expr} {ifs : List Expr} {scope : Scope} (hc : X.calm = true) (hN : X.N.Nodup) (hi : VIR X W tg e it) (ok : BlkOk X.N X.env.scope scope own)
    (hg : ∀ (s : Shared) (H : Hp) (C : Addr) (cl : List (Str × Addr)) (fp : List Addr), VG (X.blk s H scope (compEnvC scope cl C X.env) fp) ts tg g)
    (ht : ∀ (s : Shared) (H : Hp) (C : Addr) (cl : List (Str × Addr)) (fp : List Addr), VTs (X.blk s H scope (compEnvC scope cl C X.env) fp) (fun _ _ _ _ => False) ifs t)
    (he : ∀ (s : Shared) (H : Hp) (C : Addr) (cl : List (Str × Addr)) (fp : List Addr), VO (X.blk s H scope (compEnvC scope cl C X.env) fp) (fun _ _ _ _ => False) el elt)
    (hts : ∀ j ∈ ts, j ∈ own.map (·.2)) (hs : ∀ x, foldedSetIterable e X.env x = pure x := by intro _; rfl) : VO X W (.ListComp el [⟨tg, e, ifs, 0⟩] scope pos) (vComp it g t elt (own.map (·.2))) :=
  pe_imp (pe_lc hc hN hi ok hg ht he hs) fun σ H Q h => imp_comp hts h
theorem vs_setLc {i : Nat} {y : Str} {py spos : Pos} {it : IT} {g : Tgt} {ts : List Nat} {t : FT} {elt : FO} {own : List (Str × Nat)} {el : Expr} {ifs : List Expr} {scope : Scope} (hc : X.calm = true) (hN : X.N.Nodup) (hy : X.N[i]? = some y) (hyl : X.env.scope.names.lookup y = some .local)
    (hsw : swapsWith (.ListComp el [⟨tg, e, ifs, 0⟩] scope pos) (some (.Name y py)) spos.line X.env = pure true) (hi : VIR X W tg e it) (ok : BlkOk X.N X.env.scope scope own)
    (hg : ∀ (s : Shared) (H : Hp) (C : Addr) (cl : List (Str × Addr)) (fp : List Addr), VG (X.blk s H scope (compEnvC scope cl C X.env) fp) ts tg g)
    (ht : ∀ (s : Shared) (H : Hp) (C : Addr) (cl : List (Str × Addr)) (fp : List Addr), VTs (X.blk s H scope (compEnvC scope cl C X.env) fp) (fun _ _ _ _ => False) ifs t)
    (he : ∀ (s : Shared) (H : Hp) (C : Addr) (cl : List (Str × Addr)) (fp : List Addr), VO (X.blk s H scope (compEnvC scope cl C X.env) fp) (fun _ _ _ _ => False) el elt)
    (hts : ∀ j ∈ ts, j ∈ own.map (·.2)) (hs : ∀ x, foldedSetIterable e X.env x = pure x := by intro _; rfl) : VS X W (.Assign [.Name y py] (.ListComp el [⟨tg, e, ifs, 0⟩] scope pos) spos) (vSetO i (vComp it g t elt (own.map (·.2)))) :=
  ps_imp (ps_setLc hc hN hy hyl hsw hi ok hg ht he hs) fun D σ H h => imp_comp hts (imp_setO h)
theorem imp_fr {f : FO} {σ : L2.St} {H : Hp} {Q : VK} (h : tP X.K X.mg W (frO f) σ H Q) : tO X.K X.mg W f σ H Q := by
  obtain ⟨G, env, fp, pv, rs, w⟩ := h
  refine ⟨G, env, fp, pv, rs, PostR.seq w fun s w v G' H' r ex ow nd fr => ?_⟩
  cases z : s.frz? with
  | none => rw [z] at w; exact w.elim
  | some x =>
    rw [z] at w
    have g : Same G' (gu G' H' r) := gu_same ex.s
    refine w v (gu G' H' r) H' ⟨ex.g.trans g, ex.h, gu_sub ex.s, fun a o e => ?_⟩ (ow.frozenF g (fun a m o e => by rw [gu_in m]; exact e) z)
    by_cases m : a ∈ r
    · exact .inr (fr a m).1
    · rw [gu_out m] at e; exact ex.n a o e
theorem vs_setLcF {i : Nat} {y : Str} {py spos : Pos} {it : IT} {g : Tgt} {ts : List Nat} {t : FT} {elt : FO} {own : List (Str × Nat)} {el : Expr} {ifs : List Expr} {scope : Scope} (hc : X.calm = true) (hN : X.N.Nodup) (hy : X.N[i]? = some y) (hyl : X.env.scope.names.lookup y = some .local)
    (hsw : swapsWith (.ListComp el [⟨tg, e, ifs, 0⟩] scope pos) (some (.Name y py)) spos.line X.env = pure true) (hi : VIR X W tg e it) (ok : BlkOk X.N X.env.scope scope own)
    (hg : ∀ (s : Shared) (H : Hp) (C : Addr) (cl : List (Str × Addr)) (fp : List Addr), VG (X.blk s H scope (compEnvC scope cl C X.env) fp) ts tg g)
    (ht : ∀ (s : Shared) (H : Hp) (C : Addr) (cl : List (Str × Addr)) (fp : List Addr), VTs (X.blk s H scope (compEnvC scope cl C X.env) fp) (fun _ _ _ _ => False) ifs t)
    (he : ∀ (s : Shared) (H : Hp) (C : Addr) (cl : List (Str × Addr)) (fp : List Addr), VO (X.blk s H scope (compEnvC scope cl C X.env) fp) (fun _ _ _ _ => False) el elt)
    (hts : ∀ j ∈ ts, j ∈ own.map (·.2)) (hs : ∀ x, foldedSetIterable e X.env x = pure x := by intro _; rfl) : VS X W (.Assign [.Name y py] (.ListComp el [⟨tg, e, ifs, 0⟩] scope pos) spos) (vSet i (frO (vComp it g t elt (own.map (·.2))))) :=
  ps_imp (ps_setLc hc hN hy hyl hsw hi ok hg ht he hs) fun D σ H h => imp_comp hts (imp_fr (imp_set h))

inductive FOut where
  | ret (s : SV) (a : List Slot)
  | exc (c : Str)
  | bad
abbrev Fn := List Slot → FOut
def PostF (K : PySem.W.Frag) (mg : Str → Option Value) (E : XK) (Q : VK) (G H : Hp) (fp : Nat → List Addr) (vs : List V) (pv : Nat → V) : FOut → Prop
  | .ret s a => ∀ v G' H' fp' r, Stp G H fp G' H' fp' → RS K mg G' (vs.map some) a H' fp' pv → Ow K mg G' H' v s r → r.Nodup → (∀ b ∈ r, G' b = none ∧ (∀ i, b ∉ fp' i) ∧ (H b = none ∨ ∃ j, b ∈ fp j)) → Q v H'
  | .exc c => ∀ C G' H', mg c = some (.ref C) → Stp G H fp G' H' (fun _ => []) → Same G' H' → E (.ref C) none H'
  | .bad => False
def spV (K : PySem.W.Frag) (mg : Str → Option Value) (n : Nat) (S : Fn) : Sp := fun vs H Q E => vs.length = n ∧ ∃ G args fp pv, RS K mg G (vs.map some) args H fp pv ∧ PostF K mg E Q G H fp vs pv (S args)
def backA : List Slot → Env → List Slot
  | [], _ => []
  | .rf _ :: r, e => (match e with | .rf s :: _ => .rf s | _ => .no) :: backA r e.tail
  | .va (.f x) :: r, e => .va (.f x) :: backA r e.tail
  | _ :: r, e => .no :: backA r e.tail
def mkFn (nl : Nat) (body : ST) : Fn := fun args => match body (args ++ List.replicate nl .no) with
  | .rt s e => .ret s (backA args e)
  | .nx e => .ret (.f (.d .none)) (backA args e)
  | .err c _ => .exc c
  | .bad => .bad
theorem backA_length : ∀ (args : List Slot) (e : Env), (backA args e).length = args.length
  | [], _ => rfl
  | .no :: r, e => congrArg (· + 1) (backA_length r e.tail)
  | .vw _ :: r, e => congrArg (· + 1) (backA_length r e.tail)
  | .rf _ :: r, e => congrArg (· + 1) (backA_length r e.tail)
  | .va (.f _) :: r, e => congrArg (· + 1) (backA_length r e.tail)
  | .va (.own _) :: r, e => congrArg (· + 1) (backA_length r e.tail)
  | .va (.otup _) :: r, e => congrArg (· + 1) (backA_length r e.tail)
  | .va (.obj _ _) :: r, e => congrArg (· + 1) (backA_length r e.tail)
theorem backA_get : ∀ (args : List Slot) (e : Env) (i : Nat) (s : Slot), (backA args e)[i]? = some s → s = .no ∨ (∃ x, s = .va (.f x) ∧ args[i]? = some s) ∨ (∃ t t', s = .rf t ∧ args[i]? = some (.rf t') ∧ e[i]? = some s)
  | [], _, i, s, h => by simp [backA] at h
  | .no :: r, e, 0, s, h => .inl (Option.some.inj h).symm
  | .vw _ :: r, e, 0, s, h => .inl (Option.some.inj h).symm
  | .va (.f x) :: r, e, 0, s, h => .inr (.inl ⟨x, (Option.some.inj h).symm, by rw [(Option.some.inj h).symm]; rfl⟩)
  | .va (.own _) :: r, e, 0, s, h => .inl (Option.some.inj h).symm
  | .va (.otup _) :: r, e, 0, s, h => .inl (Option.some.inj h).symm
  | .va (.obj _ _) :: r, e, 0, s, h => .inl (Option.some.inj h).symm
  | .rf t' :: r, [], 0, s, h => .inl (Option.some.inj h).symm
  | .rf t' :: r, .no :: _, 0, s, h => .inl (Option.some.inj h).symm
  | .rf t' :: r, .va _ :: _, 0, s, h => .inl (Option.some.inj h).symm
  | .rf t' :: r, .vw _ :: _, 0, s, h => .inl (Option.some.inj h).symm
  | .rf t' :: r, .rf t :: _, 0, s, h => by
    have e : s = .rf t := (Option.some.inj h).symm
    subst e
    exact .inr (.inr ⟨t, t', rfl, rfl, rfl⟩)
  | a :: r, e, i + 1, s, h => by
    have h' : (backA r e.tail)[i]? = some s := by
      cases a with
      | no => exact h
      | vw _ => exact h
      | rf _ => exact h
      | va t => cases t <;> exact h
    rcases backA_get r e.tail i s h' with q | ⟨x, q1, q2⟩ | ⟨t, t', q1, q2, q3⟩
    · exact .inl q
    · exact .inr (.inl ⟨x, q1, by simpa using q2⟩)
    · refine .inr (.inr ⟨t, t', q1, by simpa using q2, ?_⟩)
      cases e with
      | nil => cases q3
      | cons y e => simpa using q3
theorem RS.back {K : PySem.W.Frag} {mg : Str → Option Value} {G G' H H' : Hp} {vs : List V} {args : List Slot} {fp fp' : Nat → List Addr} {pv : Nat → V} {σ : L2.St} {e : Env} (h : RS K mg G (vs.map some) args H fp pv) (st : Stp G H fp G' H' fp') (h' : RS K mg G' σ e H' fp' pv) :
    ∃ fp2, RS K mg G' (vs.map some) (backA args e) H' fp2 pv ∧ ∀ i a, a ∈ fp2 i → a ∈ fp' i := by
  refine ⟨fun i => match (backA args e)[i]? with | some (.rf _) => fp' i | _ => [], ⟨?_, fun i s q => ?_, fun i hi => ?_, h'.sub, fun i a m => ?_, fun i => ?_, fun i j a m1 m2 => ?_⟩, fun i a m => ?_⟩
  · rw [backA_length]; exact h.len
  · rcases backA_get args e i s q with rfl | ⟨x, rfl, q2⟩ | ⟨t, t', rfl, q2, q3⟩
    · show (match (backA args e)[i]? with | some (.rf _) => fp' i | _ => []) = []
      rw [q]
    · obtain ⟨v, e1, ow⟩ := h.rel i _ q2
      refine ⟨v, e1, ?_⟩
      have z : (match (backA args e)[i]? with | some (.rf _) => fp' i | _ => []) = [] := by rw [q]
      rw [z]
      generalize fp i = r at ow
      cases ow with
      | f ow => exact .f (ow.mono st.g)
    · obtain ⟨e1, _⟩ := h.rel i _ q2
      obtain ⟨_, ow⟩ := h'.rel i _ q3
      refine ⟨e1, ?_⟩
      have z : (match (backA args e)[i]? with | some (.rf _) => fp' i | _ => []) = fp' i := by rw [q]
      rw [z]
      exact ow
  · have q : (backA args e)[i]? = none := List.getElem?_eq_none hi
    show (match (backA args e)[i]? with | some (.rf _) => fp' i | _ => []) = []
    rw [q]
  · have m' : a ∈ (match (backA args e)[i]? with | some (.rf _) => fp' i | _ => []) := m
    split at m'
    · exact h'.out i a m'
    · cases m'
  · show (match (backA args e)[i]? with | some (.rf _) => fp' i | _ => []).Nodup
    split
    · exact h'.nd i
    · exact .nil
  · have m1' : a ∈ (match (backA args e)[i]? with | some (.rf _) => fp' i | _ => []) := m1
    have m2' : a ∈ (match (backA args e)[j]? with | some (.rf _) => fp' j | _ => []) := m2
    split at m1'
    · split at m2'
      · exact h'.dj i j a m1' m2'
      · cases m2'
    · cases m1'
  · have m' : a ∈ (match (backA args e)[i]? with | some (.rf _) => fp' i | _ => []) := m
    split at m'
    · exact m'
    · cases m'
theorem RS.start {K : PySem.W.Frag} {mg : Str → Option Value} {G H : Hp} {vs : List V} {args : List Slot} {fp : Nat → List Addr} {pv : Nat → V} (h : RS K mg G (vs.map some) args H fp pv) (nl : Nat) : RS K mg G (vs.map some ++ List.replicate nl none) (args ++ List.replicate nl .no) H fp pv where
  len := by simp [h.len]
  rel := fun i s q => by
    by_cases hi : i < args.length
    · rw [List.getElem?_append_left hi] at q
      rw [List.getElem?_append_left (by rw [← h.len]; exact hi)]
      exact h.rel i s q
    · rw [List.getElem?_append_right (by omega)] at q
      have e : s = .no := by
        have m := List.mem_of_getElem? q
        exact (List.mem_replicate.mp m).2
      subst e
      exact h.nil i (by omega)
  nil := fun i hi => h.nil i (by simp at hi; omega)
  sub := h.sub
  out := h.out
  nd := h.nd
  dj := h.dj
def WF (E : XK) : WX := fun cls d _ H => E cls d H
theorem body_ok {K : PySem.W.Frag} {mg : Str → Option Value} {N : List Str} {n nl : Nat} {body : ST} {vs : List V} {H : Hp} {Q : VK} {E : XK} (hn : N.length - n = nl) (h : spV K mg n (mkFn nl body) vs H Q E) :
    tS K mg (WF E) body { nx := fun _ H' => Q .non H', rt := Q } (L2.start N vs) H := by
  obtain ⟨hl, G, args, fp, pv, rs, w⟩ := h
  have e : L2.start N vs = vs.map some ++ List.replicate nl none := by unfold L2.start; rw [hl, hn]
  rw [e]
  refine ⟨G, args ++ List.replicate nl .no, fp, pv, rs.start nl, ?_⟩
  unfold mkFn at w
  cases z : body (args ++ List.replicate nl .no) with
  | nx e2 =>
    rw [z] at w
    intro G' σ' H' fp' st rs'
    obtain ⟨fp2, rb, sb⟩ := rs.back st rs'
    exact w .non G' H' fp2 [] (st.sub fun i a m => st.f i a (sb i a m)) rb (.f (.d .non)) .nil fun a m => by cases m
  | rt s e2 =>
    rw [z] at w
    intro v G' σ' H' fp' r st rs' ow nd fr
    obtain ⟨fp2, rb, sb⟩ := rs.back st rs'
    exact w v G' H' fp2 r (st.sub fun i a m => st.f i a (sb i a m)) rb ow nd fun a m => ⟨(fr a m).1, fun i q => (fr a m).2.1 i (sb i a q), (fr a m).2.2⟩
  | err c e2 =>
    rw [z] at w
    exact fun C G' σ' H' fp' m st rs' => w C G' H' m (st.sub fun _ _ m => by cases m) rs'.sub
  | bad => rw [z] at w; exact w.elim
theorem fn_ok {P : Program} {w : World} {K : PySem.W.Frag} {mg : Str → Option Value} {base : Heap} {x qual : Str} {st : Stmt} {f : Addr} {fd : FuncData} {N ps : List Str} {k n nl : Nat} {body : ST} (F : Fun K x qual st f fd) (S : FnScope N ps (defScope st)) (hps : ps.length = n) (hn : N.length - n = nl)
    (hb : ∀ (cdv : Value) (A : Around) (outer : List PySem.Env) (s : Shared) (H : Hp) (E : XK), Room k (A.deeper (envOfC qual (defScope st) s.heap.objs.size f cdv)) →
      VSs (cxOf (L2.CX P w) P w K mg base N qual (defScope st) f cdv A outer s H E) (WF E) (defBody st) body) : FnOk P w K mg base (L2.CX P w) (k + 1) f fd ps (spV K mg n (mkFn nl body)) :=
  F.okX S (fun vs H Q E h => by rw [hps]; exact h.1) fun cdv A outer s H vs Q E hr h => ⟨_, hb cdv A outer s H E hr, body_ok hn h⟩
end
end VL

set_option Elab.async false
set_option linter.all false
set_option maxRecDepth 100000
set_option maxHeartbeats 4000000
namespace VL
open PySem PySem.Spec PyProof.Rows L2

section
variable {X : Cx} {W : WX} {a b c e o tg : Expr} {es : List Expr} {pos : Pos} {st : Stmt} {sts : List Stmt}
def tAN (K : PySem.W.Frag) (mg : Str → Option Value) (W : WX) (n : Nat) (f : Env → Res (List FV)) : TA := fun σ H Q => ∃ G env fp pv, RS K mg G σ env H fp pv ∧
  PostR mg W σ H (fun xs => ∀ vs G' H', Ext G H G' H' → Fqs K mg G' vs xs → xs.length = n → Q vs H') (f env)
abbrev VAN (X : Cx) (W : WX) (n : Nat) (es : List Expr) (f : Env → Res (List FV)) : Prop := PA X es (tAN X.K X.mg W n f)
def aN : Env → Res (List FV) := fun _ => .ok []
def aC (f : FP) (g : Env → Res (List FV)) : Env → Res (List FV) := fun env => (f env).bind fun x => (g env).bind fun xs => .ok (x :: xs)
theorem van_nil : VAN X W 0 [] aN := pa_imp pa_nil fun σ H Q ⟨G, env, fp, pv, rs, w⟩ => w [] G H (Ext.refl rs.sub) .nil rfl
theorem van_cons {n : Nat} {f : FP} {g : Env → Res (List FV)} (ha : VP X W e f) (hr : VAN X W n es g) (hs : starEach (e :: es) X.env = (false, eval e X.env) :: starEach es X.env) : VAN X W (n + 1) (e :: es) (aC f g) :=
  pa_imp (pa_cons ha hr hs) fun σ H Q ⟨G, env, fp, pv, rs, w⟩ => ⟨G, env, fp, pv, rs, by
    have w' := PostR.seq (k := fun x => PostR X.mg W σ H _ ((g env).bind _)) w fun y w => w
    exact PostR.imp w' (Same.refl _) fun x w v G1 H1 e1 q1 => ⟨G1, env, fp, pv, rs.ext e1, PostR.imp (PostR.seq (k := fun y => PostR X.mg W σ H _ (Res.ok (x :: y))) w fun y w => w) e1.h fun xs w vs G2 H2 e2 q2 hl => w (v :: vs) G2 H2 (e1.trans e2) (.cons (q1.mono e2.g) q2) (by simp [hl])⟩⟩
theorem Fqs.length {K : PySem.W.Frag} {mg : Str → Option Value} {G : Hp} {vs : List V} {xs : List FV} (h : Fqs K mg G vs xs) : vs.length = xs.length := by
  induction h with
  | nil => rfl
  | cons _ _ ih => simp [ih]
theorem Fqs.get {K : PySem.W.Frag} {mg : Str → Option Value} {G : Hp} : ∀ {vs : List V} {xs : List FV} {i : Nat} {x : FV}, Fqs K mg G vs xs → xs[i]? = some x → ∃ v, vs[i]? = some v ∧ Fq K mg G v x
  | _, _, _, _, .nil, e => by simp at e
  | _, _, 0, _, .cons h t, e => by simp at e; subst e; exact ⟨_, rfl, h⟩
  | _, _, i + 1, x, .cons h t, e => by simpa using Fqs.get (i := i) t (by simpa using e)
def vaF (x : FV) : Slot := .va (.f x)
theorem RS.args {K : PySem.W.Frag} {mg : Str → Option Value} {G H : Hp} {vs : List V} {xs : List FV} (s : Same G H) (h : Fqs K mg G vs xs) : RS K mg G (vs.map some) (xs.map vaF) H (fun _ => []) (fun _ => .non) where
  len := by rw [List.length_map, List.length_map, h.length]
  rel := fun i u q => by
    rw [List.getElem?_map] at q
    cases z : xs[i]? with
    | none => rw [z] at q; cases q
    | some x =>
      rw [z] at q
      cases q
      obtain ⟨v, hv, fq⟩ := h.get z
      exact ⟨v, by rw [List.getElem?_map, hv]; rfl, .f fq⟩
  nil := fun _ _ => rfl
  sub := s
  out := fun _ _ m => by cases m
  nd := fun _ => .nil
  dj := fun _ _ _ m => by cases m
theorem Stp.ext0 {G H G' H' : Hp} {fp' : Nat → List Addr} (st : Stp G H (fun _ => []) G' H' fp') (s : Same G' H') : Ext G H G' H' where
  g := st.g
  h := fun b o h => st.fr b o h fun _ m => by cases m
  s := s
  n := fun a o q => by
    rcases st.n a o q with z | z | ⟨_, m⟩
    · exact .inl z
    · exact .inr z
    · cases m
def outR : FOut → Res SV
  | .ret s _ => .ok s
  | .exc c => .err c
  | .bad => .bad
def vCall (S : Fn) (fs : Env → Res (List FV)) : FO := fun env => (fs env).bind fun xs => outR (S (xs.map vaF))
theorem vo_call {k n : Nat} {f : Addr} {fd : FuncData} {ps : List Str} {S : Fn} {x : Str} {p : Pos} {fs : Env → Res (List FV)} (F : FnOk X.prog X.w X.K X.mg X.base (L2.CX X.prog X.w) k f fd ps (spV X.K X.mg n S)) (hr : Room k X.A) (hm : X.mg x = some (.ref f)) (hk : PySem.W.keepIn X.K (.ref f) = true) (hb : Binds X.K fd ps [])
    (tk : Takes X W) (ha : VAN X W n (e :: es) fs) (hg : Gl X x) (hdb : (x == ("__debug__" : Str)) = false := by decide) (he : starEach (e :: es) X.env = (false, eval e X.env) :: starEach es X.env := by rfl) (hpl : (backTo pos (starEach es X.env)).any (·.1) = false := by rfl) :
    VO X W (.Call (.Name x p) (e :: es) [] pos) (vCall S fs) :=
  pe_imp (pe_callS F hr hg hm hk hb (fun σ => passAt tk σ) ha hdb he hpl) fun σ H Q ⟨G, env, fp, pv, rs, w⟩ => ⟨G, env, fp, pv, rs, PostR.seq w fun xs w vs G1 H1 e1 q1 hl => by
    refine ⟨by rw [q1.length]; exact hl, G1, xs.map vaF, fun _ => [], fun _ => .non, RS.args e1.s q1, ?_⟩
    cases z : S (xs.map vaF) with
    | ret s as =>
      rw [z] at w
      refine fun v G2 H2 fp2 r st rs2 ow nd fr => w v G2 H2 r (e1.trans (st.ext0 rs2.sub)) ow nd fun a m => ⟨?_, (fr a m).1⟩
      rcases (fr a m).2.2 with q | ⟨_, q⟩
      · exact none_back e1.h q
      · cases q
    | exc c =>
      rw [z] at w
      exact fun C G2 H2 m k _ => w C H2 m (e1.h.trans fun b o h => k.fr b o h fun _ q => by cases q)
    | bad => rw [z] at w; exact w.elim⟩
theorem run_makeS {CX : CXT} {k : Nat} {C f : Addr} {fd : FuncData} {ps : List Str} {sp : Sp} {E : L2.St → XK} {pins : List (Addr × Obj)} {σ : L2.St} {H : Hp} {s : Shared} {Q : VK} {us : List Value} {vs : List V} (M : Mk X.K C f) (F : FnOk X.prog X.w X.K X.mg X.base CX k f fd ps sp) (hr : Room (k + 1) X.A) (hb : Binds X.K fd ps [])
    (hx : PassesAt CX X σ (E σ)) (I : Inv X pins σ H s) (r : Vals vs us)
    (h : ∀ x dx, H x = none → H dx = none → dx ≠ x → sp (.ref x :: vs) (upd (upd H dx (.own x)) x (.ins C dx [])) (fun v H2 => v = .non ∧ Q (.ref x) H2) (E σ)) :
    wpAny (model X.prog X.w) X.A (call (.ref C) us) (EP X pins σ Q) X.xe s := by
  have hq := h (s.heap.objs.size + 1) s.heap.objs.size (I.hok.fresh (Nat.le_succ _)) (I.hok.fresh (Nat.le_refl _)) (Nat.ne_of_lt (Nat.lt_succ_self _))
  have I2 := Inv.made (C := C) I
  have r2 : Vals (V.ref (s.heap.objs.size + 1) :: vs) (Value.ref (s.heap.objs.size + 1) :: us) := .cons rfl r
  have hl : (Value.ref (s.heap.objs.size + 1) :: us).length = ps.length := by
    have e := r2.length
    rw [F.len _ _ _ _ hq] at e
    exact e.symm
  have b := hb _ (Value.ref (s.heap.objs.size + 1) :: us) I2.kIn (by rw [List.append_nil]; exact hl)
  rw [List.append_nil] at b
  refine wpAny_call (make_map (f := f) I.kIn M.makes M.init (beq_iff_eq.mp M.fn) (codeAny_mono (F.run _ X.stack _ _ ⟨Value.ref (s.heap.objs.size + 1) :: us, []⟩ (Value.ref (s.heap.objs.size + 1) :: us) _ _ (E σ) (hr.make C us [])
    (I2.env0.make C us []) b r2 hq) fun r s' hq' => ?_))
  cases r with
  | error e => exact hx pins _ _ e s' I2 hq'
  | ok fl =>
    cases fl with
    | ret u =>
      obtain ⟨v, H', I3, rv, ev, q3⟩ := I2.after hq'
      subst ev
      exact ⟨rv, ⟨V.ref (s.heap.objs.size + 1), H', I3, rfl, q3⟩⟩
    | next => exact False.elim hq'
    | brk => exact False.elim hq'
    | cont => exact False.elim hq'
def tMakeS (C : Addr) (sp : Sp) (E : L2.St → XK) (t : TA) : TE := fun σ H Q => t σ H fun vs H1 => ∀ x dx, H1 x = none → H1 dx = none → dx ≠ x →
  sp (.ref x :: vs) (upd (upd H1 dx (.own x)) x (.ins C dx [])) (fun v H2 => v = .non ∧ Q (.ref x) H2) (E σ)
theorem pe_makeS {CX : CXT} {k : Nat} {C f : Addr} {fd : FuncData} {ps : List Str} {sp : Sp} {E : L2.St → XK} {x : Str} {p : Pos} {t : TA} (M : Mk X.K C f) (F : FnOk X.prog X.w X.K X.mg X.base CX k f fd ps sp) (hr : Room (k + 1) X.A) (hg : Gl X x) (hm : X.mg x = some (.ref C)) (hb : Binds X.K fd ps []) (hx : ∀ σ, PassesAt CX X σ (E σ))
    (ha : PA X (e :: es) t) (hdb : (x == ("__debug__" : Str)) = false := by decide) (he : starEach (e :: es) X.env = (false, eval e X.env) :: starEach es X.env := by rfl) (hpl : (backTo pos (starEach es X.env)).any (·.1) = false := by rfl) :
    PE X (.Call (.Name x p) (e :: es) [] pos) (tMakeS C sp E t) := by
  refine ⟨fun pins s σ H Q I h => ?_⟩
  refine wpAny_Call_Name_kw (ld_glob I hg hm ?_ hdb)
  refine PySem.W.callWith_K (h₀ := X.base) I.ok.mod.kin M.kp (thn (ha.run pos pins s σ H _ I h) fun us s1 ⟨vs, H1, I1, r, q⟩ => ⟨I1.kIn, ?_⟩) he hpl
  exact run_makeS M F hr hb (hx σ) I1 r q
def outM : FOut → Res SV
  | .ret (.f (.d .none)) (.rf s :: _) => .ok s
  | .exc c => .err c
  | _ => .bad
def vMake (c : Str) (S : Fn) (fs : Env → Res (List FV)) : FO := fun env => (fs env).bind fun xs => outM (S (.rf (.obj c []) :: xs.map vaF))
theorem vo_make {k n : Nat} {C f : Addr} {fd : FuncData} {ps : List Str} {S : Fn} {x : Str} {p : Pos} {fs : Env → Res (List FV)} (M : Mk X.K C f) (F : FnOk X.prog X.w X.K X.mg X.base (L2.CX X.prog X.w) k f fd ps (spV X.K X.mg (n + 1) S)) (hr : Room (k + 1) X.A) (hm : X.mg x = some (.ref C)) (hb : Binds X.K fd ps [])
    (tk : Takes X W) (ha : VAN X W n (e :: es) fs) (hg : Gl X x) (hdb : (x == ("__debug__" : Str)) = false := by decide) (he : starEach (e :: es) X.env = (false, eval e X.env) :: starEach es X.env := by rfl) (hpl : (backTo pos (starEach es X.env)).any (·.1) = false := by rfl) :
    VO X W (.Call (.Name x p) (e :: es) [] pos) (vMake x S fs) :=
  pe_imp (pe_makeS M F hr hg hm hb (fun σ => passAt tk σ) ha hdb he hpl) fun σ H Q ⟨G, env, fp, pv, rs, w⟩ => ⟨G, env, fp, pv, rs, PostR.seq w fun xs w vs G1 H1 e1 q1 hl y dx hy hdx hne => by
    have hH : ∀ b o, H1 b = some o → (upd (upd H1 dx (.own y)) y (.ins C dx [])) b = some o := fun b o h => by
      rw [upd_ne (ne_of_none h hy), upd_ne (ne_of_none h hdx)]; exact h
    have hy1 : G1 y = none := none_back e1.s hy
    have ra := RS.args (K := X.K) (mg := X.mg) e1.s q1
    have rs1 : RS X.K X.mg G1 ((V.ref y :: vs).map some) (.rf (.obj x []) :: xs.map vaF) (upd (upd H1 dx (.own y)) y (.ins C dx [])) (fun i => if i = 0 then [y] else []) (fun _ => .ref y) := by
      refine ⟨by simp [q1.length], fun i u q => ?_, fun i hi => ?_, fun b o h => hH b o (e1.s b o h), fun i a m => ?_, fun i => ?_, fun i j a m1 m2 => ?_⟩
      · cases i with
        | zero =>
          cases q
          exact ⟨rfl, .obj hm upd_same .nil⟩
        | succ i =>
          have q' : (xs.map vaF)[i]? = some u := q
          have r := ra.rel i u q'
          have r2 := slotOk.mono (Same.refl _) hH r
          exact (by
            cases u with
            | no => rfl
            | va s => exact r2
            | rf s =>
              rw [List.getElem?_map] at q'
              cases z : xs[i]? with
              | none => rw [z] at q'; cases q'
              | some x => rw [z] at q'; cases q'
            | vw p => exact r2)
      · have : i ≠ 0 := by intro z; subst z; simp at hi
        show (if i = 0 then [y] else []) = []
        rw [if_neg this]
      · by_cases hi : i = 0
        · rw [if_pos hi] at m
          have e : a = y := by simpa using m
          rw [e]; exact hy1
        · rw [if_neg hi] at m; cases m
      · show (if i = 0 then [y] else []).Nodup
        by_cases hi : i = 0
        · rw [if_pos hi]; simp
        · rw [if_neg hi]; exact .nil
      · by_cases hi : i = 0
        · by_cases hj : j = 0
          · rw [hi, hj]
          · rw [if_neg hj] at m2; cases m2
        · rw [if_neg hi] at m1; cases m1
    refine ⟨by simp [q1.length, hl], G1, _, _, _, rs1, ?_⟩
    cases z : S (.rf (.obj x []) :: xs.map vaF) with
    | ret s as =>
      rw [z] at w
      intro v G2 H2 fp2 r st rs2 ow nd fr
      match s, as, w, ow, rs2 with
      | .f (.d .none), .rf s' :: as, w, ow, rs2 =>
        have hv : v = .non := by
          generalize r = r' at ow
          cases ow with
          | f q => cases q with | d q => cases q; rfl
        obtain ⟨_, ow2⟩ := rs2.rel 0 _ rfl
        have hx : ∀ b o, H1 b = some o → H2 b = some o := fun b o h => st.fr b o (hH b o h) fun i m => by
          by_cases hi : i = 0
          · rw [if_pos hi] at m
            have e : b = y := by simpa using m
            rw [e, hy] at h; cases h
          · rw [if_neg hi] at m; cases m
        have back : ∀ a, (upd (upd H1 dx (.own y)) y (.ins C dx [])) a = none → H1 a = none := fun a h => by
          cases q : H1 a with
          | none => rfl
          | some o => rw [hH a o q] at h; cases h
        have inY : ∀ a j, a ∈ (if j = 0 then [y] else []) → H1 a = none := fun a j m => by
          by_cases hj : j = 0
          · rw [if_pos hj] at m
            have e : a = y := by simpa using m
            rw [e]; exact hy
          · rw [if_neg hj] at m; cases m
        refine ⟨hv, w (.ref y) G2 H2 (fp2 0) (e1.trans ⟨st.g, hx, rs2.sub, fun a o q => ?_⟩) ow2 (rs2.nd 0) fun a m => ⟨?_, rs2.out 0 a m⟩⟩
        · rcases st.n a o q with q | q | ⟨j, q⟩
          · exact .inl q
          · exact .inr (back a q)
          · exact .inr (inY a j q)
        · rcases st.f 0 a m with q | ⟨j, q⟩
          · exact none_back e1.h (back a q)
          · exact none_back e1.h (inY a j q)
    | exc c =>
      rw [z] at w
      refine fun C' G2 H2 m k _ => w C' H2 m (e1.h.trans fun b o h => k.fr b o (hH b o h) fun i q => ?_)
      have q : b ∈ (if i = 0 then [y] else []) := q
      by_cases hi : i = 0
      · rw [if_pos hi] at q
        have e : b = y := by simpa using q
        rw [e, hy] at h; cases h
      · rw [if_neg hi] at q; cases q
    | bad => rw [z] at w; exact w.elim⟩
end

def dv : Slot → Slot
  | .vw _ => .no
  | s => s
theorem dv_get {env : Env} {j : Nat} {s : Slot} (h : (env.map dv)[j]? = some s) : ∃ t, env[j]? = some t ∧ s = dv t := by
  rw [List.getElem?_map] at h
  cases z : env[j]? with
  | none => rw [z] at h; cases h
  | some t => rw [z] at h; exact ⟨t, rfl, (Option.some.inj h).symm⟩
inductive Kind where
  | va
  | rf
def Kind.mk : Kind → SV → Slot
  | .va, s => .va s
  | .rf, s => .rf s
section
variable {K : PySem.W.Frag} {mg : Str → Option Value} {G H H' : Hp} {fp : Nat → List Addr} {σ : L2.St} {env : Env} {pv : Nat → V}
theorem RS.put {i : Nat} {kd : Kind} {s s' : SV} {v : V} {r : List Addr} (h : RS K mg G σ env H fp pv) (hs : env[i]? = some (kd.mk s)) (hv : σ[i]? = some (some v)) (hp : kd = .rf → v = pv i) (hH : ∀ b, b ∉ fp i → (∃ o, H b = some o) → H' b = H b) (ow : Ow K mg G H' v s' r) (nd : r.Nodup) (hr : ∀ b ∈ r, G b = none ∧ ∀ j, j ≠ i → b ∉ fp j) :
    RS K mg G σ ((env.map dv).set i (kd.mk s')) H' (fun j => if j = i then r else fp j) pv where
  len := by rw [List.length_set, List.length_map]; exact h.len
  rel := fun j u e => by
    have hi : i < env.length := (List.getElem?_eq_some_iff.mp hs).1
    by_cases q : j = i
    · subst q
      rw [List.getElem?_set_self (by rw [List.length_map]; exact hi)] at e
      cases e
      rw [if_pos rfl]
      cases kd with
      | va => exact ⟨v, hv, ow⟩
      | rf => rw [← hp rfl]; exact ⟨hv, ow⟩
    · rw [List.getElem?_set_ne (Ne.symm q)] at e
      rw [if_neg q]
      obtain ⟨t, et, rfl⟩ := dv_get e
      have r := h.rel j t et
      have same : ∀ a ∈ fp j, H' a = H a := fun a m => hH a (fun m2 => q (h.dj j i a m m2)) (h.there j a m)
      cases t with
      | no => exact r
      | va s => obtain ⟨v, e1, q⟩ := r; exact ⟨v, e1, q.mono (Same.refl _) same⟩
      | rf s => obtain ⟨e1, q⟩ := r; exact ⟨e1, q.mono (Same.refl _) same⟩
      | vw p => exact r.1
  nil := fun j hj => by
    have hi : i < env.length := (List.getElem?_eq_some_iff.mp hs).1
    rw [List.length_set, List.length_map] at hj
    show (if j = i then r else fp j) = []
    rw [if_neg (by omega)]
    exact h.nil j hj
  sub := fun a o e => by
    have z := h.sub a o e
    rw [hH a (fun m => by rw [h.out i a m] at e; cases e) ⟨o, z⟩]
    exact z
  out := fun j a m => by
    by_cases q : j = i
    · rw [if_pos q] at m; exact (hr a m).1
    · rw [if_neg q] at m; exact h.out j a m
  nd := fun j => by
    show (if j = i then r else fp j).Nodup
    by_cases q : j = i
    · rw [if_pos q]; exact nd
    · rw [if_neg q]; exact h.nd j
  dj := fun j k a m1 m2 => by
    by_cases q1 : j = i
    · rw [if_pos q1] at m1
      by_cases q2 : k = i
      · rw [q1, q2]
      · rw [if_neg q2] at m2; exact absurd m2 ((hr a m1).2 k q2)
    · rw [if_neg q1] at m1
      by_cases q2 : k = i
      · rw [if_pos q2] at m2; exact absurd m1 ((hr a m2).2 j q1)
      · rw [if_neg q2] at m2; exact h.dj j k a m1 m2
def tree (e : Env) (i : Nat) : Option (Kind × SV) := match e[i]? with
  | some (.va s) => some (.va, s)
  | some (.rf s) => some (.rf, s)
  | _ => none
theorem RS.tree (h : RS K mg G σ env H fp pv) {i : Nat} {kd : Kind} {s : SV} (t : tree env i = some (kd, s)) : env[i]? = some (kd.mk s) ∧ ∃ v, σ[i]? = some (some v) ∧ (kd = .rf → v = pv i) ∧ Ow K mg G H v s (fp i) := by
  unfold VL.tree at t
  cases z : env[i]? with
  | none => rw [z] at t; cases t
  | some u =>
    rw [z] at t
    cases u with
    | no => cases t
    | vw p => cases t
    | va u =>
      cases t
      obtain ⟨v, e1, q⟩ := h.rel i _ z
      exact ⟨rfl, v, e1, (fun q => by cases q), q⟩
    | rf u =>
      cases t
      obtain ⟨e1, q⟩ := h.rel i _ z
      exact ⟨rfl, _, e1, (fun _ => rfl), q⟩
def putS (f : Str) (v : SV) : List (Str × SV) → List (Str × SV)
  | [] => [(f, v)]
  | (g, x) :: r => if g = f then (g, v) :: r else (g, x) :: putS f v r
theorem Owf.len : ∀ {vs : List (Str × V)} {fs : List (Str × SV)} {r : List Addr}, Owf K mg G H vs fs r → vs.length = fs.length
  | _, _, _, .nil => rfl
  | _, _, _, .cons _ t => congrArg (· + 1) (Owf.len t)
theorem Owf.put {n : Str} {v : V} {s : SV} {r1 : List Addr} (ow : Ow K mg G H v s r1) : ∀ {vs : List (Str × V)} {fs : List (Str × SV)} {r : List Addr}, Owf K mg G H vs fs r → (r ++ r1).Nodup → ∃ r', Owf K mg G H (putF n v vs) (putS n s fs) r' ∧ (∀ b ∈ r', b ∈ r ∨ b ∈ r1) ∧ r'.Nodup
  | _, _, _, .nil, nd => ⟨r1 ++ [], .cons ow .nil, fun b m => .inr (by simpa using m), by simpa using nd⟩
  | _, _, _, @Owf.cons _ _ _ _ m v0 vs x0 xs r rs h t, nd => by
    by_cases e : m = n
    · refine ⟨r1 ++ rs, ?_, fun b hb => ?_, ?_⟩
      · show Owf K mg G H (if m = n then (m, v) :: vs else (m, v0) :: putF n v vs) (if m = n then (m, s) :: xs else (m, x0) :: putS n s xs) _
        rw [if_pos e, if_pos e]
        exact .cons ow t
      · rcases List.mem_append.mp hb with q | q
        · exact .inr q
        · exact .inl (List.mem_append_right _ q)
      · have n1 := (List.nodup_append.mp nd)
        have n2 := (List.nodup_append.mp n1.1)
        exact List.nodup_append.mpr ⟨n1.2.1, n2.2.1, fun a m1 b m2 q => n1.2.2 b (List.mem_append_right _ m2) a m1 q.symm⟩
    · rw [List.append_assoc] at nd
      have n1 := List.nodup_append.mp nd
      obtain ⟨r', o', s', n'⟩ := Owf.put (n := n) ow t n1.2.1
      refine ⟨r ++ r', ?_, fun b hb => ?_, ?_⟩
      · show Owf K mg G H (if m = n then (m, v) :: vs else (m, v0) :: putF n v vs) (if m = n then (m, s) :: xs else (m, x0) :: putS n s xs) _
        rw [if_neg e, if_neg e]
        exact .cons h o'
      · rcases List.mem_append.mp hb with q | q
        · exact .inl (List.mem_append_left _ q)
        · rcases s' b q with q | q
          · exact .inl (List.mem_append_right _ q)
          · exact .inr q
      · refine List.nodup_append.mpr ⟨n1.1, n', fun a m1 b m2 q => ?_⟩
        rcases s' b m2 with z | z
        · exact n1.2.2 a m1 b (List.mem_append_left _ z) q
        · exact n1.2.2 a m1 b (List.mem_append_right _ z) q
theorem Owf.look_none {n : Str} : ∀ {vs : List (Str × V)} {fs : List (Str × SV)} {r : List Addr}, Owf K mg G H vs fs r → fs.lookup n = none → vs.lookup n = none
  | _, _, _, .nil, _ => rfl
  | _, _, _, @Owf.cons _ _ _ _ m v0 vs x0 xs r rs h t, e => by
    by_cases q : (n == m) = true
    · simp only [List.lookup, q] at e; cases e
    · have q' : (n == m) = false := by simpa using q
      simp only [List.lookup, q'] at e ⊢
      exact Owf.look_none t e
end
section
variable {X : Cx} {W : WX} {a b c e o tg : Expr} {es : List Expr} {pos apos : Pos} {st : Stmt} {sts : List Stmt}
def setF (cn n : Str) (s : SV) : SV → Option SV
  | .obj c fs => if c = cn ∧ fs.length < 1000 ∧ (n = "chance" ∨ (fs.lookup n).isNone = true) then some (.obj c (putS n s fs)) else none
  | _ => none
def vSetF (cn : Str) (i : Nat) (n : Str) (f : FO) : ST := fun e => ofR (f e) e fun s => match tree e i with
  | some (kd, t) => match setF cn n s t with
    | some t' => .nx ((e.map dv).set i (kd.mk t'))
    | none => .bad
  | none => .bad
theorem vs_setF {cn : Str} {i : Nat} {n : Str} {f : FO} (hc : FldOk X cn n) (ho : PE X o (tVar i)) (he : VO X W e f) (hsw : swapsWith e (some (.Attribute o n apos)) pos.line X.env = pure false) :
    VS X W (.Assign [.Attribute o n apos] e pos) (vSetF cn i n f) := ps_imp (ps_fld ho he hsw) fun D σ H ⟨G, env, fp, pv, rs, w⟩ => ⟨G, env, fp, pv, rs, Post.ofR rs w fun s w v G1 H1 r e1 ow nd fr => by
  cases z : tree env i with
  | none => rw [z] at w; exact w.elim
  | some kt =>
    obtain ⟨kd, t⟩ := kt
    rw [z] at w
    dsimp only at w
    have rs1 := rs.ext e1
    obtain ⟨hs, u, hu, hp, owt⟩ := rs1.tree z
    refine ⟨u, hu, ?_⟩
    cases z2 : setF cn n s t with
    | none => rw [z2] at w; exact w.elim
    | some t' =>
      rw [z2] at w
      cases t with
      | f _ => cases z2
      | own _ => cases z2
      | otup _ => cases z2
      | obj c fs =>
        have z3 : (if c = cn ∧ fs.length < 1000 ∧ (n = "chance" ∨ (fs.lookup n).isNone = true) then some (SV.obj c (putS n s fs)) else none) = some t' := z2
        by_cases hl : c = cn ∧ fs.length < 1000 ∧ (n = "chance" ∨ (fs.lookup n).isNone = true)
        · rw [if_pos hl] at z3
          cases z3
          generalize hfp : fp i = r0 at owt
          cases owt with
          | @obj x C dx _ vs _ rr m hx of =>
            obtain ⟨k1, k2⟩ := hc _ (by rw [← hl.1]; exact m)
            have hxr : x ∉ r := fun q => by
              have z1 := (fr x q).1
              obtain ⟨o, ho⟩ := rs.there i x (by rw [hfp]; exact List.mem_cons_self)
              rw [ho] at z1; cases z1
            have nd0 := rs1.nd i
            rw [hfp] at nd0
            have nd1 := List.nodup_cons.mp nd0
            have ndr : (rr ++ r).Nodup := List.nodup_append.mpr ⟨nd1.2, nd, fun a m1 b m2 q => by
              subst q
              obtain ⟨o, ho⟩ := rs.there i a (by rw [hfp]; exact List.mem_cons_of_mem _ m1)
              rw [(fr a m2).1] at ho; cases ho⟩
            obtain ⟨r', of', sr', nd'⟩ := Owf.put (n := n) ow of ndr
            have xr' : x ∉ r' := fun q => by
              rcases sr' x q with q | q
              · exact nd1.1 q
              · exact hxr q
            have upx : ∀ a, a ≠ x → (upd H1 x (.ins C dx (putF n v vs))) a = H1 a := fun a h => upd_ne h
            have rs2 := rs1.put (H' := upd H1 x (.ins C dx (putF n v vs))) (s' := .obj c (putS n s fs)) (r := x :: r') hs hu hp (fun b hb _ => upx b fun q => hb (by rw [hfp, q]; exact List.mem_cons_self))
              (.obj m upd_same (of'.mono (Same.refl _) fun a ma => upx a fun q => xr' (by rw [← q]; exact ma))) (List.nodup_cons.mpr ⟨xr', nd'⟩) (fun b hb => by
                rcases List.mem_cons.mp hb with rfl | hb
                · exact ⟨rs1.out i b (by rw [hfp]; exact List.mem_cons_self), fun j hj m2 => hj (rs1.dj j i b m2 (by rw [hfp]; exact List.mem_cons_self))⟩
                · rcases sr' b hb with q | q
                  · exact ⟨rs1.out i b (by rw [hfp]; exact List.mem_cons_of_mem _ q), fun j hj m2 => hj (rs1.dj j i b m2 (by rw [hfp]; exact List.mem_cons_of_mem _ q))⟩
                  · exact ⟨(fr b q).2, fun j _ => rs.notin (fr b q).1 j⟩)
            refine ⟨x, C, dx, vs, rfl, hx, k1, k2, by rw [of.len]; exact hl.2.1, w G1 σ _ _ ⟨e1.g, fun b ob h q => ?_, fun a ob q => ?_, fun j a ma => ?_, fun b hb => ?_, fun a C' dx' vs' h => ?_⟩ rs2⟩
            · rw [upx b fun z => q i (by rw [hfp, z]; exact List.mem_cons_self)]
              exact e1.h b ob h
            · rcases e1.n a ob q with q | q
              · exact .inl q
              · exact .inr (.inl q)
            · by_cases hj : j = i
              · rw [if_pos hj] at ma
                rcases List.mem_cons.mp ma with rfl | ma
                · exact .inr ⟨i, by rw [hfp]; exact List.mem_cons_self⟩
                · rcases sr' a ma with q | q
                  · exact .inr ⟨i, by rw [hfp]; exact List.mem_cons_of_mem _ q⟩
                  · exact .inl (fr a q).1
              · rw [if_neg hj] at ma; exact .inr ⟨j, ma⟩
            · by_cases hbx : b = x
              · rw [hbx, upd_same] at hb; cases hb
              · rw [upx b hbx] at hb; exact none_back e1.h hb
            · by_cases hax : a = x
              · have h1 := e1.h _ _ h
                rw [hax, hx] at h1
                cases h1
                refine ⟨putF n v vs, by rw [hax]; exact upd_same, fun f y hf q => ?_⟩
                rw [lookup_putF]
                by_cases hfn : f = n
                · subst hfn
                  rcases hl.2.2 with z | z
                  · exact absurd z hf
                  · have z' : fs.lookup f = none := by simpa using z
                    rw [of.look_none z'] at q; cases q
                · rw [if_neg hfn]; exact q
              · exact ⟨vs', by rw [upx a hax]; exact e1.h _ _ h, fun _ _ _ q => q⟩
        · rw [if_neg hl] at z3; cases z3⟩
end
end VL

set_option Elab.async false
set_option linter.all false
set_option maxRecDepth 100000
set_option maxHeartbeats 4000000
namespace VL
open PySem PySem.Spec PyProof.Rows L2

def Def (P : Program) (w : World) (K : PySem.W.Frag) (mg : Str → Option Value) (base : Heap) (k n : Nat) (x : Str) (ps : List Str) (S : Fn) : Prop :=
  ∃ (f : Addr) (fd : FuncData), FnOk P w K mg base (L2.CX P w) k f fd ps (spV K mg n S) ∧ mg x = some (.ref f) ∧ PySem.W.keepIn K (.ref f) = true ∧ Binds K fd ps []
def Sits (K : PySem.W.Frag) (mg : Str → Option Value) (x : Str) (st : Stmt) (ps : List Str) : Prop := ∃ (f : Addr) (fd : FuncData), Fun K x x st f fd ∧ mg x = some (.ref f) ∧ Binds K fd ps []
def ClsOk (P : Program) (w : World) (K : PySem.W.Frag) (mg : Str → Option Value) (base : Heap) (k n : Nat) (c : Str) (ps : List Str) (S : Fn) : Prop :=
  ∃ (C f : Addr) (fd : FuncData), Mk K C f ∧ FnOk P w K mg base (L2.CX P w) k f fd ps (spV K mg n S) ∧ mg c = some (.ref C) ∧ Binds K fd ps []
def SitsM (K : PySem.W.Frag) (x qual : Str) (st : Stmt) (ps : List Str) (f : Addr) : Prop := ∃ (fd : FuncData), Fun K x qual st f fd ∧ Binds K fd ps []
def ExF (K : PySem.W.Frag) (mg : Str → Option Value) (c : Str) : Prop := ∃ C : Addr, mg c = some (.ref C) ∧ PySem.W.excIn K C [.type "ValueError", .type "Exception", .type "BaseException", .type "object"] "ValueError.__new__" = true ∧ PySem.W.keepIn K (.ref C) = true ∧
  PySem.W.subIn K (.ref C) (.type "BaseException") = some true ∧ PySem.W.typeIn K (.ref C) = some (.type "type")
def GTup (K : PySem.W.Frag) (mg : Str → Option Value) (x : Str) (ns : List Int) : Prop := ∃ a : Addr, mg x = some (.ref a) ∧ ∀ G, SqT K G a (ns.map V.int)
theorem hu65 {k : Nat} {A : Around} (hr : Room k A) : A.units + 65 < cLine := by have := hr.un; omega
theorem def_ok {P : Program} {w : World} {K : PySem.W.Frag} {mg : Str → Option Value} {base : Heap} {x : Str} {st : Stmt} {N ps : List Str} {k n nl : Nat} {body : ST} (F : Sits K mg x st ps) (S : FnScope N ps (defScope st)) (hps : ps.length = n) (hn : N.length - n = nl)
    (hb : ∀ (f : Addr) (cdv : Value) (A : Around) (outer : List PySem.Env) (s : Shared) (H : Hp) (E : XK), Room k (A.deeper (envOfC x (defScope st) s.heap.objs.size f cdv)) →
      VSs (cxOf (L2.CX P w) P w K mg base N x (defScope st) f cdv A outer s H E) (WF E) (defBody st) body) : Def P w K mg base (k + 1) n x ps (mkFn nl body) := by
  obtain ⟨f, fd, F, m, b⟩ := F
  exact ⟨f, fd, fn_ok F S hps hn fun cdv A outer s H E hr => hb f cdv A outer s H E hr, m, F.kp, b⟩
theorem meth_ok {P : Program} {w : World} {K : PySem.W.Frag} {mg : Str → Option Value} {base : Heap} {x qual : Str} {st : Stmt} {N ps : List Str} {k n nl : Nat} {body : ST} {f : Addr} (F : SitsM K x qual st ps f) (S : FnScope N ps (defScope st)) (hps : ps.length = n) (hn : N.length - n = nl)
    (hb : ∀ (cdv : Value) (A : Around) (outer : List PySem.Env) (s : Shared) (H : Hp) (E : XK), Room k (A.deeper (envOfC qual (defScope st) s.heap.objs.size f cdv)) →
      VSs (cxOf (L2.CX P w) P w K mg base N qual (defScope st) f cdv A outer s H E) (WF E) (defBody st) body) : ∃ fd, FnOk P w K mg base (L2.CX P w) (k + 1) f fd ps (spV K mg n (mkFn nl body)) ∧ Binds K fd ps [] := by
  obtain ⟨fd, F, b⟩ := F
  exact ⟨fd, fn_ok F S hps hn fun cdv A outer s H E hr => hb cdv A outer s H E hr, b⟩
section
variable {X : Cx} {W : WX} {a b c e o tg : Expr} {es : List Expr} {pos : Pos}
theorem vo_callD {k j n : Nat} {ps : List Str} {S : Fn} {x : Str} {p : Pos} {fs : Env → Res (List FV)} (D : Def X.prog X.w X.K X.mg X.base k n x ps S) (hr : Room j X.A) (hkj : k ≤ j) (tk : Takes X W) (ha : VAN X W n (e :: es) fs) (hg : Gl X x := by rfl) (hdb : (x == ("__debug__" : Str)) = false := by decide) (he : starEach (e :: es) X.env = (false, eval e X.env) :: starEach es X.env := by rfl) (hpl : (backTo pos (starEach es X.env)).any (·.1) = false := by rfl) :
    VO X W (.Call (.Name x p) (e :: es) [] pos) (vCall S fs) := by
  obtain ⟨f, fd, F, m, kp, b⟩ := D
  exact vo_call F (hr.mono hkj) m kp b tk ha hg hdb he hpl
theorem vo_makeD {k j n : Nat} {ps : List Str} {S : Fn} {x : Str} {p : Pos} {fs : Env → Res (List FV)} (D : ClsOk X.prog X.w X.K X.mg X.base k (n + 1) x ps S) (hr : Room j X.A) (hkj : k + 1 ≤ j) (tk : Takes X W) (ha : VAN X W n (e :: es) fs) (hg : Gl X x := by rfl) (hdb : (x == ("__debug__" : Str)) = false := by decide) (he : starEach (e :: es) X.env = (false, eval e X.env) :: starEach es X.env := by rfl) (hpl : (backTo pos (starEach es X.env)).any (·.1) = false := by rfl) :
    VO X W (.Call (.Name x p) (e :: es) [] pos) (vMake x S fs) := by
  obtain ⟨C, f, fd, M, F, m, b⟩ := D
  exact vo_make M F (hr.mono hkj) m b tk ha hg hdb he hpl
theorem vs_raiseE {x m : Str} {j : Nat} {p p2 p3 : Pos} (E : ExF X.K X.mg x) (hc : X.calm = true) (tk : Takes X W) (hg : Gl X x := by rfl) (hdb : (x == ("__debug__" : Str)) = false := by decide) : VS X W (.Raise (some (.Call (.Name x p) [.Constant (.str m) j p2] [] pos)) none p3) (vRaise x) := by
  obtain ⟨C, g, q, k, s, t⟩ := E
  exact vs_raise hc tk PySem.F.excBase_ValueError q g k (raises_own s t) hg hdb
theorem dqs_ints {K : PySem.W.Frag} {G : Hp} (ns : List Int) : Dqs K G (ns.map V.int) (ns.map PyData.int) := Dqs.of_ints ns
theorem vp_gtup {x : Str} {ns : List Int} (T : GTup X.K X.mg x ns) (hg : Gl X x := by rfl) (hdb : (x == ("__debug__" : Str)) = false := by decide) : VP X W (.Name x pos) (vC (.tuple (ns.map .int))) := by
  obtain ⟨a, m, q⟩ := T
  exact vp_c (v := .ref a) (pe_glob hg m rfl hdb) fun G => .tup (q G) (dqs_ints ns)

def tyN : PyData → String
  | .none => "NoneType"
  | .bool _ => "bool"
  | .int _ => "int"
  | .str _ => "str"
  | .list _ => "list"
  | .tuple _ => "tuple"
  | .dict _ => "dict"
inductive Ty4 where
  | int | bool | list | tuple
def Ty4.n : Ty4 → String
  | .int => "int" | .bool => "bool" | .list => "list" | .tuple => "tuple"
def isI : Ty4 → PyData → Bool
  | .int, .int _ => true
  | .int, .bool _ => true
  | .bool, .bool _ => true
  | .list, .list _ => true
  | .tuple, .tuple _ => true
  | _, _ => false
theorem kit_isI : ∀ (T : Ty4) (p : PyData), (∀ l, p ≠ .dict l) → kitB (tyN p) T.n = some (isI T p) := by
  intro T p h
  cases T <;> cases p <;> first
    | exact absurd rfl (h _)
    | (show kitB _ _ = some _; simp only [tyN, Ty4.n, isI]; decide +kernel)
theorem Dr.ty {K : PySem.W.Frag} {G H : Hp} {v : V} {p : PyData} (s : Same G H) (h : Dr K G H v p) : TyX K H v (.type (tyN p)) ∧ ∀ l, p ≠ .dict l := by
  cases h with
  | fz h =>
    cases h with
    | non => exact ⟨.base .non, fun l q => by cases q⟩
    | bl b => exact ⟨.base (.bl b), fun l q => by cases q⟩
    | int b => exact ⟨.base (.int b), fun l q => by cases q⟩
    | str b => exact ⟨.base (.str b), fun l q => by cases q⟩
    | lst h t => exact ⟨.base (.lst (s _ _ h)), fun l q => by cases q⟩
    | tup h t =>
      refine ⟨?_, fun l q => by cases q⟩
      rcases h with (h | ⟨o, h⟩) | ⟨o, its, n, hk, hc, _⟩
      · exact .base (.tup (s _ _ h))
      · exact .fTuple (s _ _ h)
      · exact .kTuple hk hc
  | top h t => exact ⟨.base (.lst h), fun l q => by cases q⟩
theorem vp_isi (T : Ty4) {f : FD} {x : Str} {p p2 : Pos} (hx : bootBuiltins x = some (.type T.n)) (hmx : X.mg x = none) (hm : X.mg "isinstance" = none) (ha : VD X W a f) (hgx : Gl X x) (hnx : x ≠ "__name__") (hdx : (x == ("__debug__" : Str)) = false) (hg : Gl X "isinstance" := by rfl)
    (he : starEach [a, .Name x p2] X.env = (false, eval a X.env) :: starEach [.Name x p2] X.env := by rfl) (he2 : starEach [.Name x p2] X.env = (false, eval (.Name x p2) X.env) :: starEach [] X.env := by rfl) (hpl : (backTo pos (starEach [.Name x p2] X.env)).any (·.1) = false := by rfl) : VP X W (.Call (.Name "isinstance" p) [a, .Name x p2] [] pos) (v1 (fun y => iB (isI T y)) f) :=
  pe_imp (pe_callB call_isi hg hm boot_isinstance (pa_cons ha (pa_cons (pe_bltn (v := .ty T.n) hgx hmx hx rfl hnx hdx) pa_nil he2) he) (by decide) (by decide) he hpl) fun σ H Q ⟨G, env, fp, pv, rs, w⟩ => ⟨G, env, fp, pv, rs, PostR.seq w fun y w v G1 H1 e1 q1 => by
    obtain ⟨t, nd⟩ := q1.ty e1.s
    exact ⟨v, .ty T.n, _, _, _, rfl, .ty _, t, kit_ty (kit_isI T y nd), jP.bool e1.s (jP.ext e1 w)⟩⟩
noncomputable def lrg2 : PyData → PyData → Res SV
  | .int i, .int j => cIf (0 ≤ i ∧ i ≤ 16777216 ∧ 0 ≤ j ∧ j ≤ 16777216) (.ok (SV.dl (rngP i (j - i).toNat))) .bad
  | _, _ => .bad
theorem dqs_rg {K : PySem.W.Frag} {G : Hp} (i j : Int) : Dqs K G (rgV i j) (rngP i (j - i).toNat) := by
  unfold rgV rngP
  generalize (j - i).toNat = n
  have : ∀ l : List Nat, Dqs K G (l.map fun (k : Nat) => V.int (i + (k : Nat))) (l.map fun (k : Nat) => PyData.int (i + (k : Nat))) := fun l => by
    induction l with
    | nil => exact .nil
    | cons x l ih => exact .cons (.int _) ih
  exact this _
theorem vo_lrg2 {f g : FD} {p p2 pos2 : Pos} (hc : X.calm = true) (hl : X.mg "list" = none) (hm : X.mg "range" = none) (ha : VD X W a f) (hb : VD X W b g) (hg : Gl X "list" := by rfl) (hg2 : Gl X "range" := by rfl)
    (na : starEach [a, b] X.env = (false, eval a X.env) :: starEach [b] X.env := by rfl) (nb : starEach [b] X.env = (false, eval b X.env) :: starEach [] X.env := by rfl) (hp : (backTo pos2 (starEach [b] X.env)).any (·.1) = false := by rfl)
    (ne : starEach [.Call (.Name "range" p2) [a, b] [] pos2] X.env = (false, eval (.Call (.Name "range" p2) [a, b] [] pos2) X.env) :: starEach [] X.env := by rfl) :
    VO X W (.Call (.Name "list" p) [.Call (.Name "range" p2) [a, b] [] pos2] [] pos) (v2 lrg2 f g) :=
  pe_imp (pe_listRg hc hg hl (prg_2 hg2 hm ha hb na nb hp) ne) fun σ H Q ⟨G, env, fp, pv, rs, w⟩ => ⟨G, env, fp, pv, rs, PostR.seq w fun x w v G1 H1 e1 q1 =>
    ⟨G1, env, fp, pv, rs.ext e1, PostR.imp (PostR.seq (k := fun y => PostR X.mg W σ H (jO X.K X.mg Q G H) (lrg2 x y)) w fun y w => w) e1.h fun y w u G2 H2 e2 q2 => by
      unfold lrg2 cIf at w
      split at w
      · split at w
        · rename_i h
          exact ⟨_, _, q1.int, q2.int, RgOk.of_le h.1 h.2.2.2 h.2.1 h.2.2.1, new_dl e2.s (dqs_rg _ _) (jO.ext (e1.trans e2) w)⟩
        · exact w.elim
      · exact w.elim⟩⟩
theorem tk_body {P : Program} {w : World} {K : PySem.W.Frag} {mg : Str → Option Value} {base : Heap} {N : List Str} {qual : Str} {scope : Scope} {f : Addr} {cdv : Value} {A : Around} {outer : List PySem.Env} {s : Shared} {H : Hp} {E : XK} :
    Takes (cxOf (L2.CX P w) P w K mg base N qual scope f cdv A outer s H E) (WF E) := takes_of rfl rfl rfl rfl
theorem po_body {P : Program} {w : World} {K : PySem.W.Frag} {mg : Str → Option Value} {base : Heap} {N : List Str} {qual : Str} {scope : Scope} {f : Addr} {cdv : Value} {A : Around} {outer : List PySem.Env} {s : Shared} {H : Hp} {E : XK} :
    PassesOwn (model (cxOf (L2.CX P w) P w K mg base N qual scope f cdv A outer s H E).prog (cxOf (L2.CX P w) P w K mg base N qual scope f cdv A outer s H E).w) (cxOf (L2.CX P w) P w K mg base N qual scope f cdv A outer s H E).A (cxOf (L2.CX P w) P w K mg base N qual scope f cdv A outer s H E).env (cxOf (L2.CX P w) P w K mg base N qual scope f cdv A outer s H E).xe := passes_of rfl
end

def spLaw (K : PySem.W.Frag) : Sp := fun vs H Q _ => ∃ (a : Addr) (ns : List Int), vs = [.ref a] ∧ SqL K H a (ns.map V.int) ∧ ns.length ≤ 63 ∧ ∀ H', Q (.bl true) H'
theorem law_ok {P : Program} {w : World} {K : PySem.W.Frag} {mg : Str → Option Value} {base : Heap} {k : Nat} {f : Addr} {fd : FuncData} {S : Fn} (F : FnOk P w K mg base (L2.CX P w) k f fd ["script"] (spV K mg 1 S))
    (h : ∀ ns : List Int, ns.length ≤ 63 → ∃ a, S [.va (.f (.sc ns))] = .ret (.f (.d (.bool true))) a) : FnOk P w K mg base (L2.CX P w) k f fd ["script"] (spLaw K) :=
  F.imp fun vs H Q E ⟨a, ns, e, hs, hl, q⟩ => by
    subst e
    obtain ⟨as, hS⟩ := h ns hl
    have rs : RS K mg H [some (.ref a)] [.va (.f (.sc ns))] H (fun _ => []) (fun _ => .non) := RS.args (vs := [.ref a]) (xs := [.sc ns]) (Same.refl H) (.cons (.sc hs) .nil)
    refine ⟨rfl, H, [.va (.f (.sc ns))], fun _ => [], fun _ => .non, rs, ?_⟩
    rw [hS]
    intro v G' H' fp' r st rs' ow nd fr
    have e : v = .bl true := by
      cases ow with
      | f q => cases q with | d q => cases q; rfl
    subst e
    exact q H'
end VL

set_option Elab.async false
set_option linter.all false
set_option maxRecDepth 100000
set_option maxHeartbeats 4000000
namespace VL
open PySem PySem.Spec PyProof.Rows L2

inductive Pst where
  | fld (cn n : Str)
  | ix (i : Int)
def stepS : SV → Pst → Option SV
  | .obj c fs, .fld cn n => if c = cn then fs.lookup n else none
  | .own xs, .ix i => atI xs i
  | .otup xs, .ix i => atI xs i
  | _, _ => none
def subS : SV → List Pst → Option SV
  | s, [] => some s
  | s, p :: ps => (stepS s p).bind fun t => subS t ps
def setIx (xs : List SV) (i : Int) (t : SV) : List SV := match ixN xs.length i with
  | some j => xs.set j t
  | none => xs
def setS1 : SV → Pst → SV → SV
  | .obj c fs, .fld _ n, t => .obj c (putS n t fs)
  | .own xs, .ix i, t => .own (setIx xs i t)
  | .otup xs, .ix i, t => .otup (setIx xs i t)
  | s, _, _ => s
def updS : SV → List Pst → SV → SV
  | _, [], t => t
  | s, p :: ps, t => match stepS s p with
    | some u => setS1 s p (updS u ps t)
    | none => s
def stepV (H : Hp) : V → Pst → Option V
  | .ref a, .fld _ n => match H a with
    | some (.ins _ _ vs) => vs.lookup n
    | _ => none
  | .ref a, .ix i => match H a with
    | some (.lst vs) => atI vs i
    | some (.tup vs) => atI vs i
    | _ => none
  | _, _ => none
def reach (H : Hp) : V → List Pst → Option V
  | v, [] => some v
  | v, p :: ps => (stepV H v p).bind fun w => reach H w ps
theorem subS_snoc : ∀ (s : SV) (ps : List Pst) (p : Pst), subS s (ps ++ [p]) = (subS s ps).bind fun t => stepS t p
  | s, [], p => by
    show (stepS s p).bind (fun t => some t) = stepS s p
    cases stepS s p <;> rfl
  | s, q :: ps, p => by
    show (stepS s q).bind (fun t => subS t (ps ++ [p])) = ((stepS s q).bind fun t => subS t ps).bind _
    cases stepS s q with
    | none => rfl
    | some t => exact subS_snoc t ps p
theorem reach_snoc (H : Hp) : ∀ (v : V) (ps : List Pst) (p : Pst), reach H v (ps ++ [p]) = (reach H v ps).bind fun t => stepV H t p
  | v, [], p => by
    show (stepV H v p).bind (fun t => some t) = stepV H v p
    cases stepV H v p <;> rfl
  | v, q :: ps, p => by
    show (stepV H v q).bind (fun t => reach H t (ps ++ [p])) = ((stepV H v q).bind fun t => reach H t ps).bind _
    cases stepV H v q with
    | none => rfl
    | some t => exact reach_snoc H t ps p
theorem stepV_same {H H' : Hp} (e : Same H H') {v w : V} {p : Pst} (h : stepV H v p = some w) : stepV H' v p = some w := by
  cases v with
  | ref a =>
    cases p with
    | fld c n =>
      have h' : (match H a with | some (.ins _ _ vs) => vs.lookup n | _ => none) = some w := h
      show (match H' a with | some (.ins _ _ vs) => vs.lookup n | _ => none) = some w
      cases z : H a with
      | none => rw [z] at h'; cases h'
      | some o => rw [e _ _ z]; rw [z] at h'; exact h'
    | ix i =>
      have h' : (match H a with | some (.lst vs) => atI vs i | some (.tup vs) => atI vs i | _ => none) = some w := h
      show (match H' a with | some (.lst vs) => atI vs i | some (.tup vs) => atI vs i | _ => none) = some w
      cases z : H a with
      | none => rw [z] at h'; cases h'
      | some o => rw [e _ _ z]; rw [z] at h'; exact h'
  | _ => cases p <;> cases h
theorem reach_same {H H' : Hp} (e : Same H H') : ∀ {ps : List Pst} {v u : V}, reach H v ps = some u → reach H' v ps = some u
  | [], _, _, h => h
  | p :: ps, v, u, h => by
    have h' : (stepV H v p).bind (fun w => reach H w ps) = some u := h
    show (stepV H' v p).bind (fun w => reach H' w ps) = some u
    cases z : stepV H v p with
    | none => rw [z] at h'; cases h'
    | some w =>
      rw [z] at h'
      rw [stepV_same e z]
      exact reach_same e h'
theorem setIx_eq {xs : List SV} {i : Int} {j : Nat} {t : SV} (h : ixN xs.length i = some j) : setIx xs i t = xs.set j t := by
  unfold setIx
  rw [h]
section
variable {K : PySem.W.Frag} {mg : Str → Option Value} {G G' H H' : Hp}
theorem Ows.len : ∀ {vs : List V} {xs : List SV} {r : List Addr}, Ows K mg G H vs xs r → vs.length = xs.length
  | _, _, _, .nil => rfl
  | _, _, _, .cons _ t => congrArg (· + 1) (Ows.len t)
theorem Ows.see : ∀ {vs : List V} {xs : List SV} {r : List Addr} {j : Nat} {s : SV}, Ows K mg G H vs xs r → xs[j]? = some s → ∃ w r1, vs[j]? = some w ∧ Ow K mg G H w s r1 ∧ ∀ a ∈ r1, a ∈ r
  | _, _, _, _, _, .nil, h => by simp at h
  | _, _, _, 0, s, @Ows.cons _ _ _ _ v vs x xs r rs h t, e => by
    have e' : x = s := by simpa using e
    subst e'
    exact ⟨v, r, rfl, h, fun a m => List.mem_append_left _ m⟩
  | _, _, _, j + 1, s, @Ows.cons _ _ _ _ v vs x xs r rs h t, e => by
    obtain ⟨w, r1, h1, h2, h3⟩ := Ows.see (j := j) t (by simpa using e)
    exact ⟨w, r1, by simpa using h1, h2, fun a m => List.mem_append_right _ (h3 a m)⟩
theorem Owf.see {n : Str} : ∀ {vs : List (Str × V)} {fs : List (Str × SV)} {r : List Addr} {s : SV}, Owf K mg G H vs fs r → fs.lookup n = some s → ∃ w r1, vs.lookup n = some w ∧ Ow K mg G H w s r1 ∧ ∀ a ∈ r1, a ∈ r
  | _, _, _, _, .nil, h => by cases h
  | _, _, _, s, @Owf.cons _ _ _ _ m v vs x xs r rs h t, e => by
    by_cases q : (n == m) = true
    · simp only [List.lookup, q] at e ⊢
      cases e
      exact ⟨v, r, rfl, h, fun a m => List.mem_append_left _ m⟩
    · have q' : (n == m) = false := by simpa using q
      simp only [List.lookup, q'] at e ⊢
      obtain ⟨w, r1, h1, h2, h3⟩ := Owf.see (n := n) t e
      exact ⟨w, r1, h1, h2, fun a m => List.mem_append_right _ (h3 a m)⟩
theorem atI_ex {α : Type} {xs : List α} {i : Int} {t : α} (h : atI xs i = some t) : ∃ j, ixN xs.length i = some j ∧ xs[j]? = some t := by
  unfold atI at h
  cases z : ixN xs.length i with
  | none => rw [z] at h; cases h
  | some j => rw [z] at h; exact ⟨j, rfl, h⟩
theorem atI_of {α : Type} {xs : List α} {i : Int} {t : α} {j : Nat} (h : ixN xs.length i = some j) (e : xs[j]? = some t) : atI xs i = some t := by
  unfold atI
  rw [h]
  exact e
theorem Ow.see1 {v : V} {s t : SV} {r : List Addr} {p : Pst} (h : Ow K mg G H v s r) (e : stepS s p = some t) : ∃ w r1, stepV H v p = some w ∧ Ow K mg G H w t r1 ∧ ∀ a ∈ r1, a ∈ r := by
  cases h with
  | f h => cases p <;> cases e
  | @own a vs xs r hH o =>
    cases p with
    | fld c n => cases e
    | ix i =>
      obtain ⟨j, h1, h2⟩ := atI_ex (show atI xs i = some t from e)
      obtain ⟨w, r1, k1, k2, k3⟩ := o.see h2
      refine ⟨w, r1, ?_, k2, fun a m => List.mem_cons_of_mem _ (k3 a m)⟩
      show (match H a with | some (.lst vs) => atI vs i | some (.tup vs) => atI vs i | _ => none) = some w
      rw [hH]
      exact atI_of (by rw [o.len]; exact h1) k1
  | @otup a vs xs r hH o =>
    cases p with
    | fld c n => cases e
    | ix i =>
      obtain ⟨j, h1, h2⟩ := atI_ex (show atI xs i = some t from e)
      obtain ⟨w, r1, k1, k2, k3⟩ := o.see h2
      refine ⟨w, r1, ?_, k2, fun a m => List.mem_cons_of_mem _ (k3 a m)⟩
      show (match H a with | some (.lst vs) => atI vs i | some (.tup vs) => atI vs i | _ => none) = some w
      rw [hH]
      exact atI_of (by rw [o.len]; exact h1) k1
  | @obj a C dx c vs fs r m hH o =>
    cases p with
    | ix i => cases e
    | fld cn n =>
      have e' : (if c = cn then fs.lookup n else none) = some t := e
      by_cases ec : c = cn
      · rw [if_pos ec] at e'
        obtain ⟨w, r1, k1, k2, k3⟩ := o.see e'
        refine ⟨w, r1, ?_, k2, fun a m => List.mem_cons_of_mem _ (k3 a m)⟩
        show (match H a with | some (.ins _ _ vs) => vs.lookup n | _ => none) = some w
        rw [hH]
        exact k1
      · rw [if_neg ec] at e'; cases e'
theorem Ow.see : ∀ {ps : List Pst} {v : V} {s t : SV} {r : List Addr}, Ow K mg G H v s r → subS s ps = some t → ∃ u r1, reach H v ps = some u ∧ Ow K mg G H u t r1 ∧ ∀ a ∈ r1, a ∈ r
  | [], v, s, t, r, h, e => by
    have e' : s = t := Option.some.inj e
    subst e'
    exact ⟨v, r, rfl, h, fun a m => m⟩
  | p :: ps, v, s, t, r, h, e => by
    have e' : (stepS s p).bind (fun t => subS t ps) = some t := e
    cases z : stepS s p with
    | none => rw [z] at e'; cases e'
    | some s1 =>
      rw [z] at e'
      obtain ⟨w, r1, h1, h2, h3⟩ := h.see1 z
      obtain ⟨u, r2, k1, k2, k3⟩ := Ow.see (ps := ps) h2 e'
      refine ⟨u, r2, ?_, k2, fun a m => h3 a (k3 a m)⟩
      show (stepV H v p).bind (fun w => reach H w ps) = some u
      rw [h1]
      exact k1

structure Exch (K : PySem.W.Frag) (mg : Str → Option Value) (G H G' H' : Hp) (r r1 : List Addr) (w' : V) (s' : SV) (r1' : List Addr) : Prop where
  g : Same G G'
  h : ∀ a ∈ r, a ∉ r1 → H' a = H a
  ow : Ow K mg G' H' w' s' r1'
  nd : r1'.Nodup
  sub : ∀ a ∈ r1', a ∈ r1 ∨ a ∉ r
theorem Ows.exch : ∀ {vs : List V} {xs : List SV} {r : List Addr} {j : Nat} {s : SV}, Ows K mg G H vs xs r → r.Nodup → xs[j]? = some s → ∃ w r1, vs[j]? = some w ∧ Ow K mg G H w s r1 ∧ r1.Nodup ∧ (∀ a ∈ r1, a ∈ r) ∧
    ∀ {w' G' H' s' r1'}, Exch K mg G H G' H' r r1 w' s' r1' → ∃ r', Ows K mg G' H' (vs.set j w') (xs.set j s') r' ∧ r'.Nodup ∧ ∀ a ∈ r', a ∈ r1' ∨ (a ∈ r ∧ a ∉ r1)
  | _, _, _, _, _, .nil, _, h => by simp at h
  | _, _, _, 0, s, @Ows.cons _ _ _ _ v vs x xs r rs h t, nd, e => by
    have e' : x = s := by simpa using e
    subst e'
    have n1 := List.nodup_append.mp nd
    refine ⟨v, r, rfl, h, n1.1, fun a m => List.mem_append_left _ m, fun {w' G' H' s' r1'} X => ⟨r1' ++ rs, ?_, ?_, fun a m => ?_⟩⟩
    · exact .cons X.ow (t.mono X.g fun a m => X.h a (List.mem_append_right _ m) fun m2 => n1.2.2 a m2 a m rfl)
    · refine List.nodup_append.mpr ⟨X.nd, n1.2.1, fun a m1 b m2 q => ?_⟩
      subst q
      rcases X.sub a m1 with z | z
      · exact n1.2.2 a z a m2 rfl
      · exact z (List.mem_append_right _ m2)
    · rcases List.mem_append.mp m with q | q
      · exact .inl q
      · exact .inr ⟨List.mem_append_right _ q, fun m2 => n1.2.2 a m2 a q rfl⟩
  | _, _, _, j + 1, s, @Ows.cons _ _ _ _ v vs x xs r rs h t, nd, e => by
    have n1 := List.nodup_append.mp nd
    obtain ⟨w, r1, k1, k2, k3, k4, k5⟩ := Ows.exch (j := j) t n1.2.1 (by simpa using e)
    refine ⟨w, r1, by simpa using k1, k2, k3, fun a m => List.mem_append_right _ (k4 a m), fun {w' G' H' s' r1'} X => ?_⟩
    obtain ⟨r', o', nd', s'⟩ := k5 (w' := w') ⟨X.g, fun a m => X.h a (List.mem_append_right _ m), X.ow, X.nd, fun a m => (X.sub a m).imp id fun q m2 => q (List.mem_append_right _ m2)⟩
    refine ⟨r ++ r', ?_, ?_, fun a m => ?_⟩
    · exact .cons (h.mono X.g fun a m => X.h a (List.mem_append_left _ m) fun m2 => n1.2.2 a m a (k4 a m2) rfl) o'
    · refine List.nodup_append.mpr ⟨n1.1, nd', fun a m1 b m2 q => ?_⟩
      subst q
      rcases s' a m2 with z | z
      · rcases X.sub a z with q | q
        · exact n1.2.2 a m1 a (k4 a q) rfl
        · exact q (List.mem_append_left _ m1)
      · exact n1.2.2 a m1 a z.1 rfl
    · rcases List.mem_append.mp m with q | q
      · exact .inr ⟨List.mem_append_left _ q, fun m2 => n1.2.2 a q a (k4 a m2) rfl⟩
      · rcases s' a q with z | z
        · exact .inl z
        · exact .inr ⟨List.mem_append_right _ z.1, z.2⟩
theorem Owf.exch {n : Str} : ∀ {vs : List (Str × V)} {fs : List (Str × SV)} {r : List Addr} {s : SV}, Owf K mg G H vs fs r → r.Nodup → fs.lookup n = some s → ∃ w r1, vs.lookup n = some w ∧ Ow K mg G H w s r1 ∧ r1.Nodup ∧ (∀ a ∈ r1, a ∈ r) ∧
    ∀ {G' H' s' r1'}, Exch K mg G H G' H' r r1 w s' r1' → ∃ r', Owf K mg G' H' vs (putS n s' fs) r' ∧ r'.Nodup ∧ ∀ a ∈ r', a ∈ r1' ∨ (a ∈ r ∧ a ∉ r1)
  | _, _, _, _, .nil, _, h => by cases h
  | _, _, _, s, @Owf.cons _ _ _ _ m v vs x xs r rs h t, nd, e => by
    have n1 := List.nodup_append.mp nd
    by_cases q : (n == m) = true
    · have qe : m = n := (beq_iff_eq.mp q).symm
      simp only [List.lookup, q] at e ⊢
      cases e
      refine ⟨v, r, rfl, h, n1.1, fun a m => List.mem_append_left _ m, fun {G' H' s' r1'} X => ⟨r1' ++ rs, ?_, ?_, fun a m => ?_⟩⟩
      · show Owf K mg G' H' ((m, v) :: vs) (if m = n then (m, s') :: xs else (m, _) :: putS n s' xs) _
        rw [if_pos qe]
        exact .cons X.ow (t.mono X.g fun a m => X.h a (List.mem_append_right _ m) fun m2 => n1.2.2 a m2 a m rfl)
      · refine List.nodup_append.mpr ⟨X.nd, n1.2.1, fun a m1 b m2 q => ?_⟩
        subst q
        rcases X.sub a m1 with z | z
        · exact n1.2.2 a z a m2 rfl
        · exact z (List.mem_append_right _ m2)
      · rcases List.mem_append.mp m with q | q
        · exact .inl q
        · exact .inr ⟨List.mem_append_right _ q, fun m2 => n1.2.2 a m2 a q rfl⟩
    · have q' : (n == m) = false := by simpa using q
      have qn : ¬ m = n := fun z => by rw [z] at q'; simp at q'
      simp only [List.lookup, q'] at e ⊢
      obtain ⟨w, r1, k1, k2, k3, k4, k5⟩ := Owf.exch (n := n) t n1.2.1 e
      refine ⟨w, r1, k1, k2, k3, fun a m => List.mem_append_right _ (k4 a m), fun {G' H' s' r1'} X => ?_⟩
      obtain ⟨r', o', nd', s'⟩ := k5 ⟨X.g, fun a m => X.h a (List.mem_append_right _ m), X.ow, X.nd, fun a m => (X.sub a m).imp id fun q m2 => q (List.mem_append_right _ m2)⟩
      refine ⟨r ++ r', ?_, ?_, fun a m => ?_⟩
      · show Owf K mg G' H' ((m, v) :: vs) (if m = n then _ else (m, x) :: putS n _ xs) _
        rw [if_neg qn]
        exact .cons (h.mono X.g fun a m => X.h a (List.mem_append_left _ m) fun m2 => n1.2.2 a m a (k4 a m2) rfl) o'
      · refine List.nodup_append.mpr ⟨n1.1, nd', fun a m1 b m2 q => ?_⟩
        subst q
        rcases s' a m2 with z | z
        · rcases X.sub a z with q | q
          · exact n1.2.2 a m1 a (k4 a q) rfl
          · exact q (List.mem_append_left _ m1)
        · exact n1.2.2 a m1 a z.1 rfl
      · rcases List.mem_append.mp m with q | q
        · exact .inr ⟨List.mem_append_left _ q, fun m2 => n1.2.2 a q a (k4 a m2) rfl⟩
        · rcases s' a q with z | z
          · exact .inl z
          · exact .inr ⟨List.mem_append_right _ z.1, z.2⟩
theorem set_self {α : Type} : ∀ {l : List α} {j : Nat} {a : α}, l[j]? = some a → l.set j a = l
  | [], _, _, h => by simp at h
  | x :: l, 0, a, h => by simp at h; subst h; rfl
  | x :: l, j + 1, a, h => by
    show x :: l.set j a = x :: l
    rw [set_self (by simpa using h)]
theorem Ow.exch : ∀ {ps : List Pst} {v : V} {s t : SV} {r : List Addr}, Ow K mg G H v s r → r.Nodup → subS s ps = some t → ∃ u r1, reach H v ps = some u ∧ Ow K mg G H u t r1 ∧ r1.Nodup ∧ (∀ a ∈ r1, a ∈ r) ∧
    ∀ {G' H' t' r1'}, Exch K mg G H G' H' r r1 u t' r1' → ∃ r', Ow K mg G' H' v (updS s ps t') r' ∧ r'.Nodup ∧ ∀ a ∈ r', a ∈ r1' ∨ (a ∈ r ∧ a ∉ r1)
  | [], v, s, t, r, h, nd, e => by
    have e' : s = t := Option.some.inj e
    subst e'
    exact ⟨v, r, rfl, h, nd, fun a m => m, fun {G' H' t' r1'} X => ⟨r1', X.ow, X.nd, fun a m => .inl m⟩⟩
  | p :: ps, v, s, t, r, h, nd, e => by
    have e' : (stepS s p).bind (fun t => subS t ps) = some t := e
    cases z : stepS s p with
    | none => rw [z] at e'; cases e'
    | some s1 =>
      rw [z] at e'
      have hu : ∀ t', updS s (p :: ps) t' = setS1 s p (updS s1 ps t') := fun t' => by
        show (match stepS s p with | some u => setS1 s p (updS u ps t') | none => s) = _
        rw [z]
      cases h with
      | f h => cases p <;> cases z
      | @own a vs xs r hH o =>
        cases p with
        | fld c n => cases z
        | ix i =>
          have n1 := List.nodup_cons.mp nd
          obtain ⟨j, h1, h2⟩ := atI_ex (show atI xs i = some s1 from z)
          obtain ⟨w, r1, k1, k2, k3, k4, k5⟩ := o.exch n1.2 h2
          obtain ⟨u, r2, l1, l2, l3, l4, l5⟩ := Ow.exch (ps := ps) k2 k3 e'
          refine ⟨u, r2, ?_, l2, l3, fun b m => List.mem_cons_of_mem _ (k4 b (l4 b m)), fun {G' H' t' r2'} X => ?_⟩
          · show (match H a with | some (.lst vs) => atI vs i | some (.tup vs) => atI vs i | _ => none).bind _ = some u
            rw [hH]
            show (atI vs i).bind _ = some u
            rw [atI_of (by rw [o.len]; exact h1) k1]
            exact l1
          · obtain ⟨r1', q1, q2, q3⟩ := l5 ⟨X.g, fun b m n => X.h b (List.mem_cons_of_mem _ (k4 b m)) n, X.ow, X.nd, fun b m => (X.sub b m).imp id fun q m2 => q (List.mem_cons_of_mem _ (k4 b m2))⟩
            obtain ⟨r', p1, p2, p3⟩ := k5 (w' := w) ⟨X.g, fun b m n => X.h b (List.mem_cons_of_mem _ m) (fun m2 => n (l4 b m2)), q1, q2, fun b m => by
              rcases q3 b m with q | q
              · rcases X.sub b q with y | y
                · exact .inl (l4 b y)
                · exact .inr fun m2 => y (List.mem_cons_of_mem _ m2)
              · exact .inl q.1⟩
            have sub' : ∀ b ∈ r', b ∈ r2' ∨ (b ∈ r ∧ b ∉ r2) := fun b m => by
              rcases p3 b m with q | q
              · rcases q3 b q with y | y
                · exact .inl y
                · exact .inr ⟨k4 b y.1, y.2⟩
              · exact .inr ⟨q.1, fun m2 => q.2 (l4 b m2)⟩
            have ar' : a ∉ r' := fun m => by
              rcases sub' a m with q | q
              · rcases X.sub a q with y | y
                · exact n1.1 (k4 a (l4 a y))
                · exact y List.mem_cons_self
              · exact n1.1 q.1
            refine ⟨a :: r', ?_, List.nodup_cons.mpr ⟨ar', p2⟩, fun b m => ?_⟩
            · rw [hu, show setS1 (.own xs) (.ix i) (updS s1 ps t') = .own (setIx xs i (updS s1 ps t')) from rfl, setIx_eq h1]
              refine .own ?_ p1
              rw [set_self k1, X.h a List.mem_cons_self fun m => n1.1 (k4 a (l4 a m))]
              exact hH
            · rcases List.mem_cons.mp m with rfl | m
              · exact .inr ⟨List.mem_cons_self, fun m => n1.1 (k4 _ (l4 _ m))⟩
              · exact (sub' b m).imp id fun q => ⟨List.mem_cons_of_mem _ q.1, q.2⟩
      | @otup a vs xs r hH o =>
        cases p with
        | fld c n => cases z
        | ix i =>
          have n1 := List.nodup_cons.mp nd
          obtain ⟨j, h1, h2⟩ := atI_ex (show atI xs i = some s1 from z)
          obtain ⟨w, r1, k1, k2, k3, k4, k5⟩ := o.exch n1.2 h2
          obtain ⟨u, r2, l1, l2, l3, l4, l5⟩ := Ow.exch (ps := ps) k2 k3 e'
          refine ⟨u, r2, ?_, l2, l3, fun b m => List.mem_cons_of_mem _ (k4 b (l4 b m)), fun {G' H' t' r2'} X => ?_⟩
          · show (match H a with | some (.lst vs) => atI vs i | some (.tup vs) => atI vs i | _ => none).bind _ = some u
            rw [hH]
            show (atI vs i).bind _ = some u
            rw [atI_of (by rw [o.len]; exact h1) k1]
            exact l1
          · obtain ⟨r1', q1, q2, q3⟩ := l5 ⟨X.g, fun b m n => X.h b (List.mem_cons_of_mem _ (k4 b m)) n, X.ow, X.nd, fun b m => (X.sub b m).imp id fun q m2 => q (List.mem_cons_of_mem _ (k4 b m2))⟩
            obtain ⟨r', p1, p2, p3⟩ := k5 (w' := w) ⟨X.g, fun b m n => X.h b (List.mem_cons_of_mem _ m) (fun m2 => n (l4 b m2)), q1, q2, fun b m => by
              rcases q3 b m with q | q
              · rcases X.sub b q with y | y
                · exact .inl (l4 b y)
                · exact .inr fun m2 => y (List.mem_cons_of_mem _ m2)
              · exact .inl q.1⟩
            have sub' : ∀ b ∈ r', b ∈ r2' ∨ (b ∈ r ∧ b ∉ r2) := fun b m => by
              rcases p3 b m with q | q
              · rcases q3 b q with y | y
                · exact .inl y
                · exact .inr ⟨k4 b y.1, y.2⟩
              · exact .inr ⟨q.1, fun m2 => q.2 (l4 b m2)⟩
            have ar' : a ∉ r' := fun m => by
              rcases sub' a m with q | q
              · rcases X.sub a q with y | y
                · exact n1.1 (k4 a (l4 a y))
                · exact y List.mem_cons_self
              · exact n1.1 q.1
            refine ⟨a :: r', ?_, List.nodup_cons.mpr ⟨ar', p2⟩, fun b m => ?_⟩
            · rw [hu, show setS1 (.otup xs) (.ix i) (updS s1 ps t') = .otup (setIx xs i (updS s1 ps t')) from rfl, setIx_eq h1]
              refine .otup ?_ p1
              rw [set_self k1, X.h a List.mem_cons_self fun m => n1.1 (k4 a (l4 a m))]
              exact hH
            · rcases List.mem_cons.mp m with rfl | m
              · exact .inr ⟨List.mem_cons_self, fun m => n1.1 (k4 _ (l4 _ m))⟩
              · exact (sub' b m).imp id fun q => ⟨List.mem_cons_of_mem _ q.1, q.2⟩
      | @obj a C dx c vs fs r m hH o =>
        cases p with
        | ix i => cases z
        | fld cn n =>
          have n1 := List.nodup_cons.mp nd
          have z' : (if c = cn then fs.lookup n else none) = some s1 := z
          by_cases ec : c = cn
          · rw [if_pos ec] at z'
            obtain ⟨w, r1, k1, k2, k3, k4, k5⟩ := o.exch n1.2 z'
            obtain ⟨u, r2, l1, l2, l3, l4, l5⟩ := Ow.exch (ps := ps) k2 k3 e'
            refine ⟨u, r2, ?_, l2, l3, fun b m => List.mem_cons_of_mem _ (k4 b (l4 b m)), fun {G' H' t' r2'} X => ?_⟩
            · show (match H a with | some (.ins _ _ vs) => vs.lookup n | _ => none).bind _ = some u
              rw [hH]
              show (vs.lookup n).bind _ = some u
              rw [k1]
              exact l1
            · obtain ⟨r1', q1, q2, q3⟩ := l5 ⟨X.g, fun b m n => X.h b (List.mem_cons_of_mem _ (k4 b m)) n, X.ow, X.nd, fun b m => (X.sub b m).imp id fun q m2 => q (List.mem_cons_of_mem _ (k4 b m2))⟩
              obtain ⟨r', p1, p2, p3⟩ := k5 ⟨X.g, fun b m n => X.h b (List.mem_cons_of_mem _ m) (fun m2 => n (l4 b m2)), q1, q2, fun b m => by
                rcases q3 b m with q | q
                · rcases X.sub b q with y | y
                  · exact .inl (l4 b y)
                  · exact .inr fun m2 => y (List.mem_cons_of_mem _ m2)
                · exact .inl q.1⟩
              have sub' : ∀ b ∈ r', b ∈ r2' ∨ (b ∈ r ∧ b ∉ r2) := fun b m => by
                rcases p3 b m with q | q
                · rcases q3 b q with y | y
                  · exact .inl y
                  · exact .inr ⟨k4 b y.1, y.2⟩
                · exact .inr ⟨q.1, fun m2 => q.2 (l4 b m2)⟩
              have ar' : a ∉ r' := fun m => by
                rcases sub' a m with q | q
                · rcases X.sub a q with y | y
                  · exact n1.1 (k4 a (l4 a y))
                  · exact y List.mem_cons_self
                · exact n1.1 q.1
              refine ⟨a :: r', ?_, List.nodup_cons.mpr ⟨ar', p2⟩, fun b m => ?_⟩
              · rw [hu]
                exact .obj m ((X.h a List.mem_cons_self fun m => n1.1 (k4 a (l4 a m))).trans hH) p1
              · rcases List.mem_cons.mp m with rfl | m
                · exact .inr ⟨List.mem_cons_self, fun m => n1.1 (k4 _ (l4 _ m))⟩
                · exact (sub' b m).imp id fun q => ⟨List.mem_cons_of_mem _ q.1, q.2⟩
          · rw [if_neg ec] at z'; cases z'
theorem Ows.take1 : ∀ {vs : List V} {xs : List SV} {r : List Addr} {j : Nat} {s : SV}, Ows K mg G H vs xs r → r.Nodup → xs[j]? = some s → ∃ w r1 r2, vs[j]? = some w ∧ Ow K mg G H w s r1 ∧ Ows K mg G H (vs.eraseIdx j) (xs.eraseIdx j) r2 ∧ (r1 ++ r2).Nodup ∧ ∀ a ∈ r1 ++ r2, a ∈ r
  | _, _, _, _, _, .nil, _, h => by simp at h
  | _, _, _, 0, s, @Ows.cons _ _ _ _ v vs x xs r rs h t, nd, e => by
    have e' : x = s := by simpa using e
    subst e'
    exact ⟨v, r, rs, rfl, h, t, nd, fun a m => m⟩
  | _, _, _, j + 1, s, @Ows.cons _ _ _ _ v vs x xs r rs h t, nd, e => by
    have n1 := List.nodup_append.mp nd
    obtain ⟨w, r1, r2, h1, h2, h3, h4, h5⟩ := Ows.take1 (j := j) t n1.2.1 (by simpa using e)
    have n2 := List.nodup_append.mp h4
    refine ⟨w, r1, r ++ r2, by simpa using h1, h2, .cons h h3, ?_, fun a m => ?_⟩
    · refine List.nodup_append.mpr ⟨n2.1, List.nodup_append.mpr ⟨n1.1, n2.2.1, fun a m1 b m2 q => n1.2.2 a m1 b (h5 b (List.mem_append_right _ m2)) q⟩, fun a m1 b m2 q => ?_⟩
      subst q
      rcases List.mem_append.mp m2 with m | m
      · exact n1.2.2 a m a (h5 a (List.mem_append_left _ m1)) rfl
      · exact n2.2.2 a m1 a m rfl
    · rcases List.mem_append.mp m with m | m
      · exact List.mem_append_right _ (h5 a (List.mem_append_left _ m))
      · rcases List.mem_append.mp m with m | m
        · exact List.mem_append_left _ m
        · exact List.mem_append_right _ (h5 a (List.mem_append_right _ m))
end
end VL

set_option Elab.async false
set_option linter.all false
set_option maxRecDepth 100000
set_option maxHeartbeats 4000000
namespace VL
open PySem PySem.Spec PyProof.Rows L2

def rd (e : Env) (i : Nat) : Option SV := match e[i]? with
  | some (.va s) => some s
  | some (.rf s) => some s
  | some (.vw s) => some s
  | _ => none
abbrev Plc := Nat × List Pst × SV
def AtP (σ : L2.St) (env : Env) (H : Hp) (x : Plc) (u : V) : Prop := ∃ s v, rd env x.1 = some s ∧ subS s x.2.1 = some x.2.2 ∧ σ[x.1]? = some (some v) ∧ reach H v x.2.1 = some u
def tPl (K : PySem.W.Frag) (mg : Str → Option Value) (W : WX) (f : Env → Res Plc) : TE := fun σ H Q => ∃ G env fp pv, RS K mg G σ env H fp pv ∧
  PostR mg W σ H (fun x => ∀ u G' H', Ext G H G' H' → AtP σ env H' x u → Q u H') (f env)
section
variable {K : PySem.W.Frag} {mg : Str → Option Value} {G G' H H' : Hp} {fp : Nat → List Addr} {σ : L2.St} {env : Env} {pv : Nat → V}
theorem RS.rd (h : RS K mg G σ env H fp pv) {i : Nat} {s : SV} (z : rd env i = some s) : ∃ v r, σ[i]? = some (some v) ∧ Ow K mg G H v s r := by
  unfold VL.rd at z
  cases q : env[i]? with
  | none => rw [q] at z; cases z
  | some u =>
    rw [q] at z
    cases u with
    | no => cases z
    | va u =>
      cases z
      obtain ⟨v, e1, o⟩ := h.rel i _ q
      exact ⟨v, _, e1, o⟩
    | rf u =>
      cases z
      obtain ⟨e1, o⟩ := h.rel i _ q
      exact ⟨_, _, e1, o⟩
    | vw u =>
      cases z
      obtain ⟨_, v, r, e1, o⟩ := h.rel i _ q
      exact ⟨v, r, e1, o⟩
theorem rd_tree {e : Env} {i : Nat} {kd : Kind} {s : SV} (h : tree e i = some (kd, s)) : rd e i = some s := by
  unfold tree at h
  unfold rd
  cases q : e[i]? with
  | none => rw [q] at h; cases h
  | some u =>
    rw [q] at h
    cases u <;> first | (cases h; rfl) | cases h
theorem AtP.ow {x : Plc} {u : V} (rs : RS K mg G σ env H fp pv) (a : AtP σ env H x u) : ∃ r, Ow K mg G H u x.2.2 r := by
  obtain ⟨s, v, h1, h2, h3, h4⟩ := a
  obtain ⟨v', r, e1, o⟩ := rs.rd h1
  rw [h3] at e1
  cases e1
  obtain ⟨u', r1, e2, o2, _⟩ := o.see h2
  rw [h4] at e2
  cases e2
  exact ⟨r1, o2⟩
theorem AtP.same {x : Plc} {u : V} (e : Same H H') (a : AtP σ env H x u) : AtP σ env H' x u := by
  obtain ⟨s, v, h1, h2, h3, h4⟩ := a
  exact ⟨s, v, h1, h2, h3, reach_same e h4⟩
def plS (p : Pst) (x : Plc) : Res Plc := match stepS x.2.2 p with
  | some t => .ok (x.1, x.2.1 ++ [p], t)
  | none => .bad
theorem AtP.step {x : Plc} {u w : V} {p : Pst} {t : SV} (a : AtP σ env H x u) (h : stepS x.2.2 p = some t) (hv : stepV H u p = some w) : AtP σ env H (x.1, x.2.1 ++ [p], t) w := by
  obtain ⟨s, v, h1, h2, h3, h4⟩ := a
  refine ⟨s, v, h1, ?_, h3, ?_⟩
  · show subS s (x.2.1 ++ [p]) = some t
    rw [subS_snoc, h2]
    exact h
  · show reach H v (x.2.1 ++ [p]) = some w
    rw [reach_snoc, h4]
    exact hv
end
def ldS : SV → Res PyData
  | .f (.d p) => .ok p
  | .own xs => match SV.leafs xs with | some ds => .ok (.list ds) | none => .bad
  | _ => .bad
def plN (i : Nat) : Env → Res Plc := fun env => match rd env i with
  | some s => .ok (i, [], s)
  | none => .bad
def plF (cn n : Str) (f : Env → Res Plc) : Env → Res Plc := fun env => (f env).bind (plS (.fld cn n))
def plX1 (x : Plc) : PyData → Res Plc
  | .int k => plS (.ix k) x
  | _ => .bad
def plX (f : Env → Res Plc) (g : FD) : Env → Res Plc := fun env => (f env).bind fun x => (g env).bind (plX1 x)
def plP1 (x : Plc) : Res FV := match x.2.2 with
  | .f y => .ok y
  | _ => .bad
def plP (f : Env → Res Plc) : FP := fun env => (f env).bind plP1
def plD (f : Env → Res Plc) : FD := fun env => (f env).bind fun x => ldS x.2.2
def plL1 (x : Plc) : Res FV := match x.2.2 with
  | .own xs => iI xs.length
  | _ => .bad
def plL (f : Env → Res Plc) : FP := fun env => (f env).bind plL1
section
variable {X : Cx} {W : WX} {a b c e o : Expr} {es : List Expr} {pos apos cpos : Pos} {st : Stmt} {sts : List Stmt}
abbrev VPl (X : Cx) (W : WX) (e : Expr) (f : Env → Res Plc) : Prop := PE X e (tPl X.K X.mg W f)
theorem vpl_name {i : Nat} (h : PE X e (tVar i)) : VPl X W e (plN i) := pe_imp h fun σ H Q ⟨G, env, fp, pv, rs, w⟩ => by
  unfold plN at w
  cases z : rd env i with
  | none => rw [z] at w; exact w.elim
  | some s =>
    rw [z] at w
    obtain ⟨v, r, e1, o⟩ := rs.rd z
    exact ⟨v, e1, w v G H (Ext.refl rs.sub) ⟨s, v, z, rfl, e1, rfl⟩⟩
theorem vpl_fld {cn n : Str} {f : Env → Res Plc} (hc : FldOk X cn n) (ha : VPl X W a f) (hb : attributeBase a n X.env (eval a X.env) = eval a X.env) : VPl X W (.Attribute a n pos) (plF cn n f) :=
  pe_imp (pe_fld ha hb) fun σ H Q ⟨G, env, fp, pv, rs, w⟩ => ⟨G, env, fp, pv, rs, PostR.seq w fun x w u G1 H1 e1 at1 => by
    unfold plS at w
    cases z : stepS x.2.2 (.fld cn n) with
    | none => rw [z] at w; exact w.elim
    | some t =>
      rw [z] at w
      obtain ⟨r, ow⟩ := at1.ow (rs.ext e1)
      obtain ⟨wv, r1, k1, k2, _⟩ := ow.see1 z
      have w' := w wv G1 H1 e1 (at1.step z k1)
      generalize hx : x.2.2 = s at *
      cases s with
      | f _ => cases z
      | own _ => cases z
      | otup _ => cases z
      | obj c fs =>
        have z' : (if c = cn then fs.lookup n else none) = some t := z
        by_cases ec : c = cn
        · cases ow with
          | @obj p C dx _ vs _ _ m hH of =>
            obtain ⟨q1, q2⟩ := hc C (by rw [← ec]; exact m)
            have k1' : (match H1 p with | some (.ins _ _ vs) => vs.lookup n | _ => none) = some wv := k1
            rw [hH] at k1'
            exact ⟨p, C, dx, vs, wv, rfl, hH, q1, q2, k1', w'⟩
        · rw [if_neg ec] at z'; cases z'⟩
theorem vpl_ix {f : Env → Res Plc} {g : FD} (ha : VPl X W a f) (hb : VD X W b g) (hs : PlainIx b) : VPl X W (.Subscript a b pos) (plX f g) :=
  pe_imp (pe_ix (IxR.or ix_list ix_tup) ha hb hs) fun σ H Q ⟨G, env, fp, pv, rs, w⟩ => ⟨G, env, fp, pv, rs, PostR.seq w fun x w u G1 H1 e1 at1 => by
    refine ⟨G1, env, fp, pv, rs.ext e1, PostR.imp (PostR.seq (k := fun y => PostR X.mg W σ H _ (plX1 x y)) w fun y w => w) e1.h fun y w v G2 H2 e2 q2 => ?_⟩
    have at2 := at1.same e2.h
    have ex := e1.trans e2
    cases y with
    | int k =>
      have w0 : PostR X.mg W σ H _ (plS (.ix k) x) := w
      unfold plS at w0
      cases z : stepS x.2.2 (.ix k) with
      | none => rw [z] at w0; exact w0.elim
      | some t =>
        rw [z] at w0
        obtain ⟨r, ow⟩ := at2.ow (rs.ext ex)
        obtain ⟨wv, r1, k1, k2, _⟩ := ow.see1 z
        have w' := w0 wv G2 H2 ex (at2.step z k1)
        have hv := q2.int
        subst hv
        generalize hx : x.2.2 = s at *
        cases s with
        | f _ => cases z
        | obj _ _ => cases z
        | own xs =>
          cases ow with
          | @own p vs _ _ hH of =>
            have k1' : (match H2 p with | some (.lst vs) => atI vs k | some (.tup vs) => atI vs k | _ => none) = some wv := k1
            rw [hH] at k1'
            exact .inl ⟨p, vs, k, wv, rfl, rfl, SqL.of hH, k1', w'⟩
        | otup xs =>
          cases ow with
          | @otup p vs _ _ hH of =>
            have k1' : (match H2 p with | some (.lst vs) => atI vs k | some (.tup vs) => atI vs k | _ => none) = some wv := k1
            rw [hH] at k1'
            exact .inr ⟨p, vs, k, wv, rfl, rfl, SqT.of hH, k1', w'⟩
    | none => exact w.elim
    | bool _ => exact w.elim
    | str _ => exact w.elim
    | list _ => exact w.elim
    | tuple _ => exact w.elim
    | dict _ => exact w.elim⟩
theorem vp_pl {f : Env → Res Plc} (h : VPl X W e f) : VP X W e (plP f) := pe_imp h fun σ H Q ⟨G, env, fp, pv, rs, w⟩ => ⟨G, env, fp, pv, rs, PostR.seq w fun x w u G1 H1 e1 at1 => by
  obtain ⟨r, ow⟩ := at1.ow (rs.ext e1)
  unfold plP1 at w
  generalize hx : x.2.2 = s at *
  cases s with
  | f y => cases ow with | f q => exact w u G1 H1 e1 q
  | own _ => exact w.elim
  | otup _ => exact w.elim
  | obj _ _ => exact w.elim⟩
theorem vp_plen {f : Env → Res Plc} {p : Pos} (hm : X.mg "len" = none) (ha : VPl X W e f) (hg : Gl X "len" := by rfl) (he : starEach [e] X.env = (false, eval e X.env) :: starEach [] X.env := by rfl) (hpl : (backTo pos (starEach [] X.env)).any (·.1) = false := by rfl) : VP X W (.Call (.Name "len" p) [e] [] pos) (plL f) :=
  pe_imp (pe_callB call_len_seq hg hm boot_len (pa_cons ha pa_nil he) (by decide) (by decide) he hpl) fun σ H Q ⟨G, env, fp, pv, rs, w⟩ => ⟨G, env, fp, pv, rs, PostR.seq w fun x w u G1 H1 e1 at1 => by
    obtain ⟨r, ow⟩ := at1.ow (rs.ext e1)
    unfold plL1 at w
    generalize hx : x.2.2 = s at *
    cases s with
    | own xs =>
      cases ow with
      | @own p vs _ _ hH of => exact ⟨_, vs, rfl, .inl (SqL.of hH), by rw [of.len]; exact jP.int e1.s (jP.ext e1 w)⟩
    | f _ => exact w.elim
    | otup _ => exact w.elim
    | obj _ _ => exact w.elim⟩
end

section
variable {K : PySem.W.Frag} {mg : Str → Option Value} {G H G0 H0 : Hp} {fp fp0 : Nat → List Addr} {σ : L2.St} {env : Env} {pv : Nat → V}
theorem RS.mut {i : Nat} {kd : Kind} {s : SV} {ps : List Pst} {xs : List SV} {v u : V} (rs : RS K mg G σ env H fp pv) (tr : VL.tree env i = some (kd, s)) (hs : subS s ps = some (.own xs)) (hv : σ[i]? = some (some v)) (hu : reach H v ps = some u) :
    ∃ a vs rr, u = .ref a ∧ H a = some (.lst vs) ∧ Ows K mg G H vs xs rr ∧ (a :: rr).Nodup ∧ (∀ b ∈ a :: rr, b ∈ fp i) ∧
      ∀ {vs' xs' rr'}, Ows K mg G (upd H a (.lst vs')) vs' xs' rr' → (a :: rr').Nodup → (∀ b ∈ rr', b ∈ rr ∨ ((∀ j, b ∉ fp j) ∧ G b = none ∧ (H0 b = none ∨ ∃ j, b ∈ fp0 j))) → Stp G0 H0 fp0 G H fp →
        ∃ fp', RS K mg G σ ((env.map dv).set i (kd.mk (updS s ps (.own xs')))) (upd H a (.lst vs')) fp' pv ∧ Stp G0 H0 fp0 G (upd H a (.lst vs')) fp' ∧ (∀ j, j ≠ i → fp' j = fp j) ∧ (∀ b ∈ fp' i, b = a ∨ b ∈ rr' ∨ (b ∈ fp i ∧ b ∉ a :: rr)) := by
  obtain ⟨hs1, v', hv', hp, ow⟩ := rs.tree tr
  rw [hv] at hv'
  cases hv'
  obtain ⟨u', r1, e1, o1, n1, s1, ex⟩ := ow.exch (rs.nd i) hs
  rw [hu] at e1
  cases e1
  cases o1 with
  | @own a vs _ rr hH of =>
    refine ⟨a, vs, rr, rfl, hH, of, n1, s1, fun {vs' xs' rr'} of' nd' nw st => ?_⟩
    have hai : a ∈ fp i := s1 a List.mem_cons_self
    have ne : ∀ b, b ≠ a → (upd H a (.lst vs')) b = H b := fun b hb => upd_ne hb
    obtain ⟨r', o', n', q'⟩ := ex (G' := G) (H' := upd H a (.lst vs')) (t' := .own xs') (r1' := a :: rr') ⟨Same.refl _, fun b _ nb => ne b fun q => nb (by rw [q]; exact List.mem_cons_self), .own upd_same of', nd', fun b m => by
      rcases List.mem_cons.mp m with rfl | m
      · exact .inl List.mem_cons_self
      · rcases nw b m with q | q
        · exact .inl (List.mem_cons_of_mem _ q)
        · exact .inr (q.1 i)⟩
    have hr' : ∀ b ∈ r', b = a ∨ b ∈ rr' ∨ (b ∈ fp i ∧ b ∉ a :: rr) := fun b m => by
      rcases q' b m with q | q
      · rcases List.mem_cons.mp q with q | q
        · exact .inl q
        · exact .inr (.inl q)
      · exact .inr (.inr q)
    have rs2 := rs.put (H' := upd H a (.lst vs')) (s' := updS s ps (.own xs')) (r := r') hs1 hv hp (fun b hb _ => ne b fun q => hb (by rw [q]; exact hai)) o' n' fun b hb => by
      have inI : b ∈ fp i → G b = none ∧ ∀ j, j ≠ i → b ∉ fp j := fun m => ⟨rs.out i b m, fun j hj m2 => hj (rs.dj j i b m2 m)⟩
      rcases hr' b hb with rfl | q | q
      · exact inI hai
      · rcases nw b q with q | q
        · exact inI (s1 b (List.mem_cons_of_mem _ q))
        · exact ⟨q.2.1, fun j _ => q.1 j⟩
      · exact inI q.1
    refine ⟨_, rs2, ⟨st.g, fun b o h q => ?_, st.n, fun j b m => ?_, fun b h => ?_, fun b C dx ws h => ?_⟩, fun j hj => if_neg hj, fun b m => hr' b (by have m' : b ∈ (if i = i then r' else fp i) := m; rw [if_pos rfl] at m'; exact m')⟩
    · have h1 := st.fr b o h q
      by_cases hb : b = a
      · subst hb
        rcases st.f i b hai with z | ⟨j, z⟩
        · rw [h] at z; cases z
        · exact absurd z (q j)
      · rw [ne b hb]; exact h1
    · have m' : b ∈ (if j = i then r' else fp j) := m
      by_cases hj : j = i
      · rw [if_pos hj] at m'
        rcases hr' b m' with rfl | q | q
        · exact st.f i _ hai
        · rcases nw b q with q | q
          · exact st.f i b (s1 b (List.mem_cons_of_mem _ q))
          · exact q.2.2
        · exact st.f i b q.1
      · rw [if_neg hj] at m'; exact st.f j b m'
    · by_cases hb : b = a
      · rw [hb, upd_same] at h; cases h
      · rw [ne b hb] at h; exact st.trk b h
    · obtain ⟨ws', h1, h2⟩ := st.fld b C dx ws h
      by_cases hb : b = a
      · rw [hb, hH] at h1; cases h1
      · exact ⟨ws', by rw [ne b hb]; exact h1, h2⟩
end

abbrev FE := Env → Out SV
def Out.bind {α β : Type} : Out α → (α → Env → Out β) → Out β
  | .ok a e, k => k a e
  | .err c, _ => .err c
  | .bad, _ => .bad
def oR {α β : Type} (r : Res α) (k : α → Out β) : Out β := match r with
  | .ok a => k a
  | .err c => .err c
  | .bad => .bad
def PostO {α : Type} (K : PySem.W.Frag) (mg : Str → Option Value) (W : WX) (σ : L2.St) (G H : Hp) (fp : Nat → List Addr) (pv : Nat → V) (k : α → Env → Hp → Hp → (Nat → List Addr) → Prop) : Out α → Prop
  | .ok a e => ∀ G' H' fp', Stp G H fp G' H' fp' → RS K mg G' σ e H' fp' pv → k a e G' H' fp'
  | .err c => ∀ C G' H', mg c = some (.ref C) → Stp G H fp G' H' (fun _ => []) → Same G' H' → W (.ref C) none σ H'
  | .bad => False
def Fresh (G' H : Hp) (fp fp' : Nat → List Addr) (r : List Addr) : Prop := ∀ a ∈ r, G' a = none ∧ (∀ i, a ∉ fp' i) ∧ (H a = none ∨ ∃ j, a ∈ fp j)
def kE (K : PySem.W.Frag) (mg : Str → Option Value) (Q : VK) (H : Hp) (fp : Nat → List Addr) : SV → Env → Hp → Hp → (Nat → List Addr) → Prop :=
  fun s _ G' H' fp' => ∀ v r, Ow K mg G' H' v s r → r.Nodup → Fresh G' H fp fp' r → Q v H'
def tE (K : PySem.W.Frag) (mg : Str → Option Value) (W : WX) (f : FE) : TE := fun σ H Q => ∃ G env fp pv, RS K mg G σ env H fp pv ∧ PostO K mg W σ G H fp pv (kE K mg Q H fp) (f env)
section
variable {K : PySem.W.Frag} {mg : Str → Option Value} {G H G' H' : Hp} {fp fp' : Nat → List Addr} {σ : L2.St} {env : Env} {pv : Nat → V} {W : WX}
theorem Stp.none (s : Stp G H fp G' H' fp') : Stp G H fp G' H' (fun _ => []) := s.sub fun _ _ m => by cases m
theorem PostO.step {α : Type} {k : α → Env → Hp → Hp → (Nat → List Addr) → Prop} {o : Out α} (s : Stp G H fp G' H' fp') (h : PostO K mg W σ G H fp pv k o) : PostO K mg W σ G' H' fp' pv k o := by
  cases o with
  | ok a e => exact fun G2 H2 fp2 s2 r => h G2 H2 fp2 (s.trans s2) r
  | err c => exact fun C G2 H2 m s2 q => h C G2 H2 m (s.trans s2) q
  | bad => exact h
theorem PostO.imp {α : Type} {k k' : α → Env → Hp → Hp → (Nat → List Addr) → Prop} {o : Out α} (h : PostO K mg W σ G H fp pv k o) (q : ∀ a e G' H' fp', k a e G' H' fp' → k' a e G' H' fp') : PostO K mg W σ G H fp pv k' o := by
  cases o with
  | ok a e => exact fun G2 H2 fp2 s2 r => q _ _ _ _ _ (h G2 H2 fp2 s2 r)
  | err c => exact h
  | bad => exact h
theorem PostO.seq {α β : Type} {k : β → Env → Hp → Hp → (Nat → List Addr) → Prop} {o : Out α} {g : α → Env → Out β} (h : PostO K mg W σ G H fp pv k (o.bind g)) :
    PostO K mg W σ G H fp pv (fun a e G' H' fp' => RS K mg G' σ e H' fp' pv ∧ Stp G H fp G' H' fp' ∧ PostO K mg W σ G' H' fp' pv k (g a e)) o := by
  cases o with
  | ok a e =>
    have h' : PostO K mg W σ G H fp pv k (g a e) := h
    exact fun G2 H2 fp2 s2 r => ⟨r, s2, h'.step s2⟩
  | err c => exact h
  | bad => exact h
theorem PostO.seq0 {α β : Type} {k : β → Env → Hp → Hp → (Nat → List Addr) → Prop} {o : Out α} {g : α → Env → Out β} (h : PostO K mg W σ G H fp pv k (o.bind g)) :
    PostO K mg W σ G H fp pv (fun a e G' H' fp' => RS K mg G' σ e H' fp' pv ∧ Stp G H fp G' H' fp' ∧ PostO K mg W σ G H fp pv k (g a e)) o := by
  cases o with
  | ok a e => exact fun G2 H2 fp2 s2 r => ⟨r, s2, h⟩
  | err c => exact h
  | bad => exact h
theorem PostO.ofR {α β : Type} {k : β → Env → Hp → Hp → (Nat → List Addr) → Prop} {r : Res α} {g : α → Out β} {j : α → Prop} (rs : RS K mg G σ env H fp pv) (h : PostO K mg W σ G H fp pv k (oR r g)) (q : ∀ a, PostO K mg W σ G H fp pv k (g a) → j a) : PostR mg W σ H j r := by
  cases r with
  | ok a => exact q a h
  | err c => exact fun C H2 m s => h C G H2 m (Stp.of_ext (fp := fp) ⟨Same.refl _, s, rs.sub.trans s, fun _ _ e => .inl e⟩).none (rs.sub.trans s)
  | bad => exact h
theorem Fresh.step {G2 H2 G3 : Hp} {fp2 fp3 : Nat → List Addr} {r : List Addr} (s : Stp G H fp G2 H2 fp2) (h : Fresh G3 H2 fp2 fp3 r) : Fresh G3 H fp fp3 r := fun a m => by
  obtain ⟨a1, a2, a3⟩ := h a m
  refine ⟨a1, a2, ?_⟩
  rcases a3 with q | ⟨j, q⟩
  · exact .inl (s.trk a q)
  · exact s.f j a q
end
section
variable {X : Cx} {W : WX} {a b c e o : Expr} {es : List Expr} {pos apos cpos : Pos} {st : Stmt} {sts : List Stmt}
abbrev VE (X : Cx) (W : WX) (e : Expr) (f : FE) : Prop := PE X e (tE X.K X.mg W f)
def eO (f : FO) : FE := fun env => oR (f env) fun s => .ok s env
def keepF : Slot → Slot
  | .va (.f x) => .va (.f x)
  | _ => .no
theorem RS.keepF {K : PySem.W.Frag} {mg : Str → Option Value} {G H G' H' : Hp} {fp fp' : Nat → List Addr} {σ : L2.St} {env : Env} {pv : Nat → V} (h : RS K mg G σ env H fp pv) (st : Stp G H fp G' H' fp') (s : Same G' H') : RS K mg G' σ (env.map VL.keepF) H' (fun _ => []) pv where
  len := by rw [List.length_map]; exact h.len
  rel := fun i s e => by
    rw [List.getElem?_map] at e
    cases z : env[i]? with
    | none => rw [z] at e; cases e
    | some t =>
      rw [z] at e
      cases e
      have r := h.rel i t z
      cases t with
      | no => rfl
      | rf _ => rfl
      | vw _ => rfl
      | va t =>
        cases t with
        | f x =>
          obtain ⟨v, e1, o⟩ := r
          refine ⟨v, e1, ?_⟩
          generalize fp i = r at o
          cases o with | f q => exact .f (q.mono st.g)
        | own _ => rfl
        | otup _ => rfl
        | obj _ _ => rfl
  nil := fun _ _ => rfl
  sub := s
  out := fun _ _ m => by cases m
  nd := fun _ => .nil
  dj := fun _ _ _ m => by cases m
def ofO {α : Type} (o : Out α) (env : Env) (k : α → Env → Flow) : Flow := match o with
  | .ok a e => k a e
  | .err c => .err c (env.map keepF)
  | .bad => .bad
theorem Post.ofO {α : Type} {K : PySem.W.Frag} {mg : Str → Option Value} {G H : Hp} {fp : Nat → List Addr} {σ : L2.St} {env : Env} {pv : Nat → V} {W : WX} {D : Ends} {o : Out α} {g : α → Env → Flow} {k : α → Env → Hp → Hp → (Nat → List Addr) → Prop} (rs : RS K mg G σ env H fp pv) (h : Post K mg W D G H fp pv (VL.ofO o env g))
    (q : ∀ a e G' H' fp', RS K mg G' σ e H' fp' pv → Stp G H fp G' H' fp' → Post K mg W D G H fp pv (g a e) → k a e G' H' fp') : PostO K mg W σ G H fp pv k o := by
  cases o with
  | ok a e => exact fun G' H' fp' st r => q a e G' H' fp' r st h
  | err c => exact fun C G' H' m st s => h C G' σ H' (fun _ => []) m st (rs.keepF st s)
  | bad => exact h
def vEx (f : FE) : ST := fun env => ofO (f env) env fun _ e => .nx e
def vSetE (i : Nat) (f : FE) : ST := fun env => ofO (f env) env fun s e => setS e i (.va s)
def vRetE (f : FE) : ST := fun env => ofO (f env) env fun s e => .rt s e
theorem vs_ex {f : FE} (he : VE X W e f) (hs : swapsWith e none pos.line X.env = pure false := by rfl) : VS X W (.Expr e pos) (vEx f) := ps_imp (ps_expr he hs) fun D σ H ⟨G, env, fp, pv, rs, w⟩ => ⟨G, env, fp, pv, rs, Post.ofO rs w fun s e G1 H1 fp1 rs1 st w v r ow nd fr => w G1 σ H1 fp1 st rs1⟩
theorem imp_setE {i : Nat} {f : FE} {D : Ends} {σ : L2.St} {H : Hp} (h : tS X.K X.mg W (vSetE i f) D σ H) : tAsg (tE X.K X.mg W f) (gName i) D σ H := by
  obtain ⟨G, env, fp, pv, rs, w⟩ := h
  refine ⟨G, env, fp, pv, rs, Post.ofO rs w fun s e G1 H1 fp1 rs1 st w v r ow nd fr => ?_⟩
  unfold setS at w
  by_cases c : canSet e i = true
  · rw [if_pos c] at w
    refine w G1 _ H1 _ (st.sub ?_) (rs1.set (canSet_lt c) ow nd fun a m => ⟨(fr a m).1, (fr a m).2.1⟩)
    intro j b m
    by_cases hj : j = i
    · rw [if_pos hj] at m; exact (fr b m).2.2
    · rw [if_neg hj] at m; exact st.f j b m
  · rw [if_neg c] at w; exact w.elim
theorem vs_retE {f : FE} (he : VE X W e f) : VS X W (.Return (some e) pos) (vRetE f) := ps_imp (ps_ret he) fun D σ H ⟨G, env, fp, pv, rs, w⟩ => ⟨G, env, fp, pv, rs, Post.ofO rs w fun s e G1 H1 fp1 rs1 st w v r ow nd fr => w v G1 σ H1 fp1 r st rs1 ow nd fr⟩
def putP (env : Env) (x : Plc) (ys : List SV) : Option Env := match tree env x.1 with
  | some (kd, t) => some ((env.map dv).set x.1 (kd.mk (updS t x.2.1 (.own ys))))
  | none => none
def oE (s : SV) : Option Env → Out SV
  | some e => .ok s e
  | none => .bad
noncomputable def vApp1 (env : Env) (x : Plc) (s : SV) : Out SV := match x.2.2 with
  | .own xs => cIf (xs.length < 16777216) (oE (.f (.d .none)) (putP env x (xs ++ [s]))) .bad
  | _ => .bad
def lstP (x : Plc) : Res Plc := match x.2.2 with
  | .own _ => .ok x
  | _ => .bad
noncomputable def vApp (f : Env → Res Plc) (g : FO) : FE := fun env => oR ((f env).bind lstP) fun x => oR (g env) fun s => vApp1 env x s
theorem oR_bind {α β γ : Type} (r : Res α) (k : α → Res β) (j : β → Out γ) : oR (r.bind k) j = oR r fun a => oR (k a) j := by cases r <;> rfl
theorem PostO.lst {β : Type} {K : PySem.W.Frag} {mg : Str → Option Value} {G H : Hp} {fp : Nat → List Addr} {σ : L2.St} {env : Env} {pv : Nat → V} {W : WX} {k : β → Env → Hp → Hp → (Nat → List Addr) → Prop} {r : Res Plc} {g : Plc → Out β} {j : Plc → Prop} (rs : RS K mg G σ env H fp pv) (h : PostO K mg W σ G H fp pv k (oR (r.bind lstP) g))
    (q : ∀ x xs, x.2.2 = .own xs → PostO K mg W σ G H fp pv k (g x) → j x) : PostR mg W σ H j r := by
  rw [oR_bind] at h
  refine PostO.ofR rs h fun x w => ?_
  unfold lstP at w
  cases z : x.2.2 with
  | own xs => rw [z] at w; exact q x xs z w
  | f _ => rw [z] at w; exact w.elim
  | otup _ => rw [z] at w; exact w.elim
  | obj _ _ => rw [z] at w; exact w.elim
theorem app_ok {G H G0 H0 : Hp} {fp fp0 : Nat → List Addr} {σ : L2.St} {env : Env} {pv : Nat → V} {x : Plc} {u v : V} {s : SV} {r : List Addr} {Q : VK} (rs : RS X.K X.mg G σ env H fp pv) (at1 : AtP σ env H x u) (st : Stp G0 H0 fp0 G H fp)
    (ow : Ow X.K X.mg G H v s r) (nd : r.Nodup) (fr : ∀ a ∈ r, G a = none ∧ (∀ i, a ∉ fp i) ∧ (H0 a = none ∨ ∃ j, a ∈ fp0 j))
    (w : PostO X.K X.mg W σ G0 H0 fp0 pv (kE X.K X.mg Q H0 fp0) (vApp1 env x s)) : rAppend u [v] H Q := by
  obtain ⟨t, v0, h1, h2, h3, h4⟩ := at1
  obtain ⟨i, ps, tx⟩ := x
  dsimp only at h1 h2 h3 h4
  unfold vApp1 at w
  cases tx with
  | own xs =>
    dsimp only at w
    by_cases hl : xs.length < 16777216
    · rw [cIf_pos hl] at w
      unfold putP at w
      cases z : tree env i with
      | none => rw [z] at w; exact w.elim
      | some kt =>
        obtain ⟨kd, t'⟩ := kt
        have e := rd_tree z
        rw [h1] at e
        cases e
        rw [z] at w
        obtain ⟨a, vs, rr, eu, hH, of, n1, s1, mk⟩ := rs.mut (H0 := H0) (fp0 := fp0) (G0 := G0) z h2 h3 h4
        have ndr := List.nodup_cons.mp n1
        have ar : a ∉ r := fun m => (fr a m).2.1 i (s1 a List.mem_cons_self)
        have of2 : Ows X.K X.mg G (upd H a (.lst (vs ++ [v]))) (vs ++ [v]) (xs ++ [s]) (rr ++ (r ++ [])) :=
          (of.mono (Same.refl _) fun b m => upd_ne fun q => ndr.1 (by rw [← q]; exact m)).append (.cons (ow.mono (Same.refl _) fun b m => upd_ne fun q => ar (by rw [← q]; exact m)) .nil)
        rw [List.append_nil] at of2
        obtain ⟨fp', rs', st', _, _⟩ := mk of2 (List.nodup_cons.mpr ⟨fun m => by
          rcases List.mem_append.mp m with m | m
          · exact ndr.1 m
          · exact ar m, List.nodup_append.mpr ⟨ndr.2, nd, fun b m1 b' m2 q => by
          subst q
          exact (fr b m2).2.1 i (s1 b (List.mem_cons_of_mem _ m1))⟩⟩) (fun b m => by
          rcases List.mem_append.mp m with m | m
          · exact .inl m
          · exact .inr ⟨(fr b m).2.1, (fr b m).1, (fr b m).2.2⟩) st
        refine ⟨a, vs, v, eu, rfl, hH, by rw [of.len, sl_eq]; exact hl, ?_⟩
        exact w G _ fp' st' rs' .non [] (.f (.d .non)) .nil fun b m => by cases m
    · rw [cIf_neg hl] at w; exact w.elim
  | f _ => exact w.elim
  | otup _ => exact w.elim
  | obj _ _ => exact w.elim
theorem at_list {G H : Hp} {fp : Nat → List Addr} {σ : L2.St} {env : Env} {pv : Nat → V} {x : Plc} {u : V} {xs : List SV} (rs : RS X.K X.mg G σ env H fp pv) (at1 : AtP σ env H x u) (e : x.2.2 = .own xs) : tyV X.K "list" u H := by
  obtain ⟨r, ow⟩ := at1.ow rs
  rw [e] at ow
  cases ow with
  | @own p vs _ _ hH of => exact .inl ⟨rfl, vs, SqL.of hH⟩
theorem ve_app {f : Env → Res Plc} {g : FO} (ho : VPl X W o f) (he : VO X W e g) (hbase : attributeBase o "append" X.env (eval o X.env) = eval o X.env := by rfl)
    (hfew : ((backTo cpos (starEach [e] X.env)).all (fun x => !x.1) && (backToKw cpos (keywordEach [] X.env)).all (fun x => x.1.isSome) && decide (([e] : List Expr).length + ([] : List Keyword).length + (if ([] : List Keyword).isEmpty then 0 else 1) < 30)) = true := by rfl)
    (hline : (apos.endLine == cpos.line) = true := by rfl) (hs : starEach [e] X.env = (false, eval e X.env) :: starEach [] X.env := by rfl) (hpl : (backTo cpos (starEach [] X.env)).any (·.1) = false := by rfl) :
    VE X W (.Call (.Attribute o "append" apos) [e] [] cpos) (vApp f g) :=
  pe_imp (pe_bm PySem.F.plainAttrs_list PySem.F.slot_list_append PySem.F.type_list_append mt_append ho (pa_cons he pa_nil hs) hbase hfew hline hs hpl) fun σ H Q ⟨G, env, fp, pv, rs, w⟩ => ⟨G, env, fp, pv, rs, PostO.lst rs w fun x xs hx w u G1 H1 e1 at1 => by
    have rs1 := rs.ext e1
    have w1 := w.step (Stp.of_ext (fp := fp) e1)
    refine ⟨at_list rs1 at1 hx, G1, env, fp, pv, rs1, PostO.ofR rs1 w1 fun s w2 v G2 H2 r e2 ow nd fr => ?_⟩
    exact app_ok (rs1.ext e2) (at1.same e2.h) (Stp.of_ext (fp := fp) e2) ow nd (fun a m => ⟨(fr a m).2, rs1.notin (fr a m).1, .inl (fr a m).1⟩) (PostO.imp w2 fun s e G' H' fp' k v r ow nd fr => k v r ow nd (Fresh.step (Stp.of_ext (fp := fp) e1) fr))⟩
end
end VL

set_option Elab.async false
set_option linter.all false
set_option maxRecDepth 100000
set_option maxHeartbeats 4000000
namespace VL
open PySem PySem.Spec PyProof.Rows L2

section
variable {X : Cx} {W : WX} {a b c e o : Expr} {es : List Expr} {pos apos cpos : Pos} {st : Stmt} {sts : List Stmt}
def fldsOnly (ps : List Pst) : Bool := ps.all fun p => match p with
  | .fld _ n => decide (n ≠ "chance")
  | .ix _ => false
theorem reach_flds {H H' : Hp} (k : ∀ a C dx vs, H a = some (.ins C dx vs) → ∃ vs', H' a = some (.ins C dx vs') ∧ ∀ (f : Str) x, f ≠ "chance" → vs.lookup f = some x → vs'.lookup f = some x) : ∀ {ps : List Pst} {v u : V}, fldsOnly ps = true → reach H v ps = some u → reach H' v ps = some u
  | [], _, _, _, h => h
  | p :: ps, v, u, hf, h => by
    unfold fldsOnly at hf
    rw [List.all_cons, Bool.and_eq_true] at hf
    have h' : (stepV H v p).bind (fun w => reach H w ps) = some u := h
    show (stepV H' v p).bind (fun w => reach H' w ps) = some u
    cases p with
    | ix i => cases hf.1
    | fld c n =>
      have hn : n ≠ "chance" := of_decide_eq_true hf.1
      cases z : stepV H v (.fld c n) with
      | none => rw [z] at h'; cases h'
      | some w =>
        rw [z] at h'
        cases v with
        | ref a =>
          have z' : (match H a with | some (.ins _ _ vs) => vs.lookup n | _ => none) = some w := z
          cases q : H a with
          | none => rw [q] at z'; cases z'
          | some ob =>
            rw [q] at z'
            cases ob with
            | ins C dx vs =>
              obtain ⟨vs', h1, h2⟩ := k a C dx vs q
              have z2 : stepV H' (.ref a) (.fld c n) = some w := by
                show (match H' a with | some (.ins _ _ vs) => vs.lookup n | _ => none) = some w
                rw [h1]
                exact h2 n w hn z'
              rw [z2]
              exact reach_flds k hf.2 h'
            | _ => cases z'
        | _ => cases z
def reP (e : Env) (x : Plc) : Option Plc := match rd e x.1 with
  | some t => match subS t x.2.1 with
    | some (.own xs) => some (x.1, x.2.1, .own xs)
    | _ => none
  | none => none
noncomputable def vAppE1 (x : Plc) (s : SV) (e : Env) : Out SV := match reP e x with
  | some x' => vApp1 e x' s
  | none => .bad
noncomputable def vAppE (f : Env → Res Plc) (g : FE) : FE := fun env => oR ((f env).bind lstP) fun x => if fldsOnly x.2.1 = true then (g env).bind (vAppE1 x) else .bad
theorem ve_appE {f : Env → Res Plc} {g : FE} (ho : VPl X W o f) (he : VE X W e g) (hbase : attributeBase o "append" X.env (eval o X.env) = eval o X.env := by rfl)
    (hfew : ((backTo cpos (starEach [e] X.env)).all (fun x => !x.1) && (backToKw cpos (keywordEach [] X.env)).all (fun x => x.1.isSome) && decide (([e] : List Expr).length + ([] : List Keyword).length + (if ([] : List Keyword).isEmpty then 0 else 1) < 30)) = true := by rfl)
    (hline : (apos.endLine == cpos.line) = true := by rfl) (hs : starEach [e] X.env = (false, eval e X.env) :: starEach [] X.env := by rfl) (hpl : (backTo cpos (starEach [] X.env)).any (·.1) = false := by rfl) :
    VE X W (.Call (.Attribute o "append" apos) [e] [] cpos) (vAppE f g) :=
  pe_imp (pe_bm PySem.F.plainAttrs_list PySem.F.slot_list_append PySem.F.type_list_append mt_append ho (pa_cons he pa_nil hs) hbase hfew hline hs hpl) fun σ H Q ⟨G, env, fp, pv, rs, w⟩ => ⟨G, env, fp, pv, rs, PostO.lst rs w fun x xs hx w u G1 H1 e1 at1 => by
    by_cases hf : fldsOnly x.2.1 = true
    · rw [if_pos hf] at w
      have rs1 := rs.ext e1
      have w1 := (w.step (Stp.of_ext (fp := fp) e1)).seq0
      refine ⟨at_list rs1 at1 hx, G1, env, fp, pv, rs1, PostO.imp w1 fun s e' G2 H2 fp2 ⟨rs2, st2, w2⟩ v r ow nd fr => ?_⟩
      unfold vAppE1 at w2
      cases z : reP e' x with
      | none => rw [z] at w2; exact w2.elim
      | some x' =>
        rw [z] at w2
        unfold reP at z
        cases zr : rd e' x.1 with
        | none => rw [zr] at z; cases z
        | some t =>
          rw [zr] at z
          dsimp only at z
          cases zs : subS t x.2.1 with
          | none => rw [zs] at z; cases z
          | some t2 =>
            rw [zs] at z
            cases t2 with
            | own ys =>
              cases z
              obtain ⟨s0, v0, _, _, h3, h4⟩ := at1
              have at2 : AtP σ e' H2 (x.1, x.2.1, SV.own ys) u := ⟨t, v0, zr, zs, h3, reach_flds st2.fld hf h4⟩
              have w3 : PostO X.K X.mg W σ G1 H1 fp pv (kE X.K X.mg Q H1 fp) (vApp1 e' (x.1, x.2.1, SV.own ys) s) := PostO.imp w2 fun s e G' H' fp' k v r ow nd fr => k v r ow nd (Fresh.step (Stp.of_ext (fp := fp) e1) fr)
              exact app_ok rs2 at2 st2 ow nd fr w3
            | f _ => cases z
            | otup _ => cases z
            | obj _ _ => cases z
    · rw [if_neg hf] at w; exact w.elim⟩

def pop1 (env : Env) (x : Plc) : Out SV := match x.2.2 with
  | .own (y :: ys) => oE y (putP env x ys)
  | _ => .bad
def vPop0 (f : Env → Res Plc) : FE := fun env => oR ((f env).bind lstP) (pop1 env)
theorem pop_core {G H : Hp} {fp : Nat → List Addr} {σ : L2.St} {env : Env} {pv : Nat → V} {x : Plc} {u : V} {xs : List SV} {y : SV} {j : Nat} {Q : VK} (rs : RS X.K X.mg G σ env H fp pv) (at1 : AtP σ env H x u) (hx : x.2.2 = .own xs) (hj : xs[j]? = some y)
    (w : PostO X.K X.mg W σ G H fp pv (kE X.K X.mg Q H fp) (oE y (putP env x (xs.eraseIdx j)))) : ∃ a vs v, u = .ref a ∧ H a = some (.lst vs) ∧ vs.length = xs.length ∧ vs[j]? = some v ∧ Q v (upd H a (.lst (vs.eraseIdx j))) := by
  obtain ⟨t, v0, h1, h2, h3, h4⟩ := at1
  obtain ⟨i, ps, tx⟩ := x
  dsimp only at h1 h2 h3 h4 hx
  subst hx
  unfold putP at w
  cases z : VL.tree env i with
  | none => rw [z] at w; exact w.elim
  | some kt =>
    obtain ⟨kd, t'⟩ := kt
    have e := rd_tree z
    rw [h1] at e
    cases e
    rw [z] at w
    obtain ⟨a, vs, rr, eu, hH, of, n1, s1, mk⟩ := rs.mut (H0 := H) (fp0 := fp) (G0 := G) z h2 h3 h4
    have ndr := List.nodup_cons.mp n1
    obtain ⟨v, r1, r2, k1, k2, k3, k4, k5⟩ := of.take1 ndr.2 hj
    have n4 := List.nodup_append.mp k4
    have up : ∀ b ∈ r1 ++ r2, (upd H a (.lst (vs.eraseIdx j))) b = H b := fun b m => upd_ne fun q => ndr.1 (by rw [← q]; exact k5 b m)
    obtain ⟨fp', rs', st', q1, q2⟩ := mk (vs' := vs.eraseIdx j) (xs' := xs.eraseIdx j) (k3.mono (Same.refl _) fun b m => up b (List.mem_append_right _ m)) (List.nodup_cons.mpr ⟨fun m => ndr.1 (k5 a (List.mem_append_right _ m)), n4.2.1⟩) (fun b m => .inl (k5 b (List.mem_append_right _ m))) (Stp.refl rs.sub)
    refine ⟨a, vs, v, eu, hH, of.len, k1, ?_⟩
    refine w G _ fp' st' rs' v r1 (k2.mono (Same.refl _) fun b m => up b (List.mem_append_left _ m)) n4.1 fun b m => ?_
    have bi : b ∈ fp i := s1 b (List.mem_cons_of_mem _ (k5 b (List.mem_append_left _ m)))
    refine ⟨rs.out i b bi, fun l ml => ?_, .inr ⟨i, bi⟩⟩
    by_cases hl : l = i
    · subst hl
      rcases q2 b ml with q | q | q
      · exact ndr.1 (by rw [← q]; exact k5 b (List.mem_append_left _ m))
      · exact n4.2.2 b m b q rfl
      · exact q.2 (List.mem_cons_of_mem _ (k5 b (List.mem_append_left _ m)))
    · rw [q1 l hl] at ml
      exact hl (rs.dj l i b ml bi)
theorem ve_pop0 {f : Env → Res Plc} {j : Nat} {p : Pos} (ho : VPl X W o f) (hbase : attributeBase o "pop" X.env (eval o X.env) = eval o X.env := by rfl)
    (hfew : ((backTo cpos (starEach [.Constant (.int 0) j p] X.env)).all (fun x => !x.1) && (backToKw cpos (keywordEach [] X.env)).all (fun x => x.1.isSome) && decide (([.Constant (.int 0) j p] : List Expr).length + ([] : List Keyword).length + (if ([] : List Keyword).isEmpty then 0 else 1) < 30)) = true := by rfl)
    (hline : (apos.endLine == cpos.line) = true := by rfl) (hs : starEach [.Constant (.int 0) j p] X.env = (false, eval (.Constant (.int 0) j p) X.env) :: starEach [] X.env := by rfl) (hpl : (backTo cpos (starEach [] X.env)).any (·.1) = false := by rfl) :
    VE X W (.Call (.Attribute o "pop" apos) [.Constant (.int 0) j p] [] cpos) (vPop0 f) :=
  pe_imp (pe_bm PySem.F.plainAttrs_list PySem.F.slot_list_pop PySem.F.type_list_pop mt_popAt ho (pa_cons pe_int pa_nil hs) hbase hfew hline hs hpl) fun σ H Q ⟨G, env, fp, pv, rs, w⟩ => ⟨G, env, fp, pv, rs, PostO.lst rs w fun x xs hx w u G1 H1 e1 at1 => by
    have rs1 := rs.ext e1
    have w1 := w.step (Stp.of_ext (fp := fp) e1)
    refine ⟨at_list rs1 at1 hx, ?_⟩
    unfold pop1 at w1
    rw [hx] at w1
    cases xs with
    | nil => exact w1.elim
    | cons y ys =>
      have w2 : PostO X.K X.mg W σ G1 H1 fp pv (kE X.K X.mg Q H1 fp) (oE y (putP env x ((y :: ys).eraseIdx 0))) := PostO.imp w1 fun s e G' H' fp' k v r ow nd fr => k v r ow nd (Fresh.step (Stp.of_ext (fp := fp) e1) fr)
      obtain ⟨a, vs, v, eu, hH, hl, hv, q⟩ := pop_core (j := 0) rs1 at1 hx rfl w2
      refine ⟨a, vs, 0, 0, v, eu, rfl, hH, by decide, by decide, ?_, hv, q⟩
      rw [hl]
      unfold seqIndex?
      simp⟩
noncomputable def ins1 (env : Env) (x : Plc) (y : FV) : PyData → Out SV
  | .int k => match x.2.2 with
    | .own xs => cIf (0 ≤ k ∧ k < 9223372036854775808 ∧ xs.length < 16777216) (oE (.f (.d .none)) (putP env x (xs.take k.toNat ++ [.f y] ++ xs.drop k.toNat))) .bad
    | _ => .bad
  | _ => .bad
noncomputable def vIns (f : Env → Res Plc) (g : FD) (h : FP) : FE := fun env => oR ((f env).bind lstP) fun x => oR (g env) fun k => oR (h env) fun y => ins1 env x y k
def setI1 (env : Env) (x : Plc) (s : SV) : PyData → Flow
  | .int k => match x.2.2 with
    | .own xs => match ixN xs.length k with
      | some j => match putP env x (xs.set j s) with
        | some e => .nx e
        | none => .bad
      | none => .bad
    | _ => .bad
  | _ => .bad
def vSetI (f : Env → Res Plc) (g : FD) (h : FO) : ST := fun env => ofR (h env) env fun s => ofR ((f env).bind lstP) env fun x => ofR (g env) env fun k => setI1 env x s k
theorem Post.ofLst {K : PySem.W.Frag} {mg : Str → Option Value} {G H : Hp} {fp : Nat → List Addr} {σ : L2.St} {env : Env} {pv : Nat → V} {W : WX} {D : Ends} {r : Res Plc} {g : Plc → Flow} {j : Plc → Prop} (rs : RS K mg G σ env H fp pv) (h : Post K mg W D G H fp pv (VL.ofR (r.bind lstP) env g))
    (q : ∀ x xs, x.2.2 = .own xs → Post K mg W D G H fp pv (g x) → j x) : PostR mg W σ H j r := by
  cases r with
  | ok x =>
    have h' : Post K mg W D G H fp pv (VL.ofR (lstP x) env g) := h
    unfold lstP at h'
    cases z : x.2.2 with
    | own xs => rw [z] at h'; exact q x xs z h'
    | f _ => rw [z] at h'; exact h'.elim
    | otup _ => rw [z] at h'; exact h'.elim
    | obj _ _ => rw [z] at h'; exact h'.elim
  | err c => exact fun C H2 m s => h C G σ H2 fp m (Stp.of_ext ⟨Same.refl _, s, rs.sub.trans s, fun _ _ e => .inl e⟩) (rs.same s)
  | bad => exact h
theorem vs_setI {f : Env → Res Plc} {g : FD} {h : FO} {i : Expr} {p : Pos} (ho : VPl X W o f) (hi : VD X W i g) (he : VO X W e h)
    (ha : ∀ v, assign (.Subscript o i p) X.env v = (do
      let ov ← holding [v] (eval o X.env)
      let iv ← holding [v, ov] (eval i X.env)
      standAt p
      holding [v, ov, iv] (setItem ov iv v)
      release [v, ov, iv] []) := by intro _; rfl)
    (hs : swapsWithSole [.Subscript o i p] e pos.line X.env = pure false) (hw : swappedStores [.Subscript o i p] e X.env = pure none) (h1 : (assignEach [.Subscript o i p] X.env).map (·.2) = [assign (.Subscript o i p) X.env]) : VS X W (.Assign [.Subscript o i p] e pos) (vSetI f g h) :=
  ps_imp (ps_asg he (pg_sub ho hi set_list ha) hs hw h1) fun D σ H ⟨G, env, fp, pv, rs, w⟩ => ⟨G, env, fp, pv, rs, Post.ofR rs w fun s w v G1 H1 r e1 ow nd fr => by
    have rs1 := rs.ext e1
    refine ⟨G1, env, fp, pv, rs1, PostR.imp (Post.ofLst (j := fun x => ∃ xs, x.2.2 = .own xs ∧ Post X.K X.mg W D G H fp pv (VL.ofR (g env) env fun k => setI1 env x s k)) rs w fun x xs hx w => ⟨xs, hx, w⟩) e1.h fun x ⟨xs, hx, w⟩ u G2 H2 e2 at2 => ?_⟩
    have rs2 := rs1.ext e2
    refine ⟨G2, env, fp, pv, rs2, PostR.imp (Post.ofR (j := fun k => Post X.K X.mg W D G H fp pv (setI1 env x s k)) rs w fun k w => w) (e1.trans e2).h fun k w5 kv G3 H3 e3 q3 => ?_⟩
    have rs3 := rs2.ext e3
    have at3 := at2.same e3.h
    have e23 := e2.trans e3
    have ow3 : Ow X.K X.mg G3 H3 v s r := ow.same e23.g e23.h
    have fr3 : ∀ a ∈ r, G3 a = none ∧ ∀ j, a ∉ fp j := fun a m => by
      refine ⟨?_, rs.notin (fr a m).1⟩
      cases q : G3 a with
      | none => rfl
      | some ob =>
        rcases e23.n a ob q with z | z
        · rw [(fr a m).2] at z; cases z
        · obtain ⟨ob2, z2⟩ := ow.there a m
          rw [z2] at z; cases z
    unfold setI1 at w5
    cases k with
    | int k =>
      dsimp only at w5
      rw [hx] at w5
      dsimp only at w5
      have ek := q3.int
      subst ek
      cases hj : ixN xs.length k with
      | none => rw [hj] at w5; exact w5.elim
      | some j =>
        rw [hj] at w5
        dsimp only at w5
        obtain ⟨t, v0, h1, h2, h3, h4⟩ := at3
        obtain ⟨i, ps, tx⟩ := x
        dsimp only at h1 h2 h3 h4 hx
        subst hx
        unfold putP at w5
        cases z : VL.tree env i with
        | none => rw [z] at w5; exact w5.elim
        | some kt =>
          obtain ⟨kd, t'⟩ := kt
          have e := rd_tree z
          rw [h1] at e
          cases e
          rw [z] at w5
          obtain ⟨a, vs, rr, eu, hH, of, n1, s1, mk⟩ := rs3.mut (H0 := H) (fp0 := fp) (G0 := G) z h2 h3 h4
          have ndr := List.nodup_cons.mp n1
          have jl : j < xs.length := (ixN_seq hj).2.1
          obtain ⟨w0, r1, k1, k2, k3, k4, k5⟩ := of.exch ndr.2 (List.getElem?_eq_getElem jl)
          have ar : a ∉ r := fun m => (fr3 a m).2 i (s1 a List.mem_cons_self)
          obtain ⟨r', o', n', q'⟩ := k5 (w' := v) (G' := G3) (H' := upd H3 a (.lst (vs.set j v))) (s' := s) (r1' := r) ⟨Same.refl _, fun b m _ => upd_ne fun q => ndr.1 (by rw [← q]; exact m), ow3.mono (Same.refl _) fun b m => upd_ne fun q => ar (by rw [← q]; exact m), nd, fun b m => .inr fun m2 => (fr3 b m).2 i (s1 b (List.mem_cons_of_mem _ m2))⟩
          have sub' : ∀ b ∈ r', b ∈ rr ∨ b ∈ r := fun b m => by
            rcases q' b m with q | q
            · exact .inr q
            · exact .inl q.1
          obtain ⟨fp', rs', st', _, _⟩ := mk o' (List.nodup_cons.mpr ⟨fun m => by
            rcases sub' a m with q | q
            · exact ndr.1 q
            · exact ar q, n'⟩) (fun b m => by
            rcases sub' b m with q | q
            · exact .inl q
            · exact .inr ⟨(fr3 b q).2, (fr3 b q).1, .inl (fr b q).1⟩) (Stp.of_ext (fp := fp) (e1.trans e23))
          refine ⟨a, vs, k, j, eu, rfl, hH, by rw [of.len]; exact hj, ?_⟩
          exact w5 G3 σ _ fp' st' rs'
    | none => exact w5.elim
    | bool _ => exact w5.elim
    | str _ => exact w5.elim
    | list _ => exact w5.elim
    | tuple _ => exact w5.elim
    | dict _ => exact w5.elim⟩
end
end VL

set_option Elab.async false
set_option linter.all false
set_option maxRecDepth 100000
set_option maxHeartbeats 4000000
namespace VL
open PySem PySem.Spec PyProof.Rows L2

inductive AV where
  | fz (x : FV)
  | ref (i : Nat)
  | see (i : Nat)
def avOk (K : PySem.W.Frag) (mg : Str → Option Value) (G : Hp) (σ : L2.St) (v : V) : AV → Prop
  | .fz x => Fq K mg G v x
  | .ref i => σ[i]? = some (some v)
  | .see i => σ[i]? = some (some v)
inductive AVs (K : PySem.W.Frag) (mg : Str → Option Value) (G : Hp) (σ : L2.St) : List V → List AV → Prop
  | nil : AVs K mg G σ [] []
  | cons {v : V} {vs : List V} {x : AV} {xs : List AV} : avOk K mg G σ v x → AVs K mg G σ vs xs → AVs K mg G σ (v :: vs) (x :: xs)
def slot1 (e : Env) : AV → Option Slot
  | .fz x => some (.va (.f x))
  | .ref i => (tree e i).map fun k => .rf k.2
  | .see i => (rd e i).map .vw
def slotsOf (e : Env) : List AV → Option (List Slot)
  | [] => some []
  | x :: xs => match slot1 e x, slotsOf e xs with
    | some s, some r => some (s :: r)
    | _, _ => none
def refsOf : List AV → List Nat
  | [] => []
  | .ref i :: r => i :: refsOf r
  | _ :: r => refsOf r
def idxRef : List AV → Nat → Option Nat
  | [], _ => none
  | .ref k :: r, i => if k = i then some 0 else (idxRef r i).map (· + 1)
  | _ :: r, i => (idxRef r i).map (· + 1)
def back1 (sl : Slot) : Option Slot → Slot
  | some (.rf s) => match sl with
    | .va _ => .va s
    | .rf _ => .rf s
    | _ => .no
  | _ => .no
def backE (env : Env) (xs : List AV) (as : List Slot) : Env := env.mapIdx fun i sl => match idxRef xs i with
  | none => dv sl
  | some j => back1 sl as[j]?
section
variable {K : PySem.W.Frag} {mg : Str → Option Value} {G H G' H' : Hp} {fp fp' : Nat → List Addr} {σ : L2.St} {env : Env} {pv : Nat → V}
theorem AVs.mono {vs : List V} {xs : List AV} (g : Same G G') (h : AVs K mg G σ vs xs) : AVs K mg G' σ vs xs := by
  induction h with
  | nil => exact .nil
  | @cons v vs x xs h t ih =>
    refine .cons ?_ ih
    cases x with
    | fz x => exact Fq.mono g h
    | ref i => exact h
    | see i => exact h
theorem AVs.length {vs : List V} {xs : List AV} (h : AVs K mg G σ vs xs) : vs.length = xs.length := by
  induction h with
  | nil => rfl
  | cons _ _ ih => simp [ih]
theorem AVs.get : ∀ {vs : List V} {xs : List AV} {i : Nat} {x : AV}, AVs K mg G σ vs xs → xs[i]? = some x → ∃ v, vs[i]? = some v ∧ avOk K mg G σ v x
  | _, _, _, _, .nil, e => by simp at e
  | _, _, 0, _, .cons h t, e => by simp at e; subst e; exact ⟨_, rfl, h⟩
  | _, _, i + 1, x, .cons h t, e => by simpa using AVs.get (i := i) t (by simpa using e)
theorem slotsOf_get {e : Env} : ∀ {xs : List AV} {sl : List Slot}, slotsOf e xs = some sl → sl.length = xs.length ∧ ∀ (j : Nat) (s : Slot), sl[j]? = some s → ∃ x, xs[j]? = some x ∧ slot1 e x = some s
  | [], sl, h => by
    cases (show some [] = some sl from h)
    exact ⟨rfl, fun j s e => by simp at e⟩
  | x :: xs, sl, h => by
    unfold slotsOf at h
    split at h
    · rename_i s r h1 h2
      cases h
      obtain ⟨l, k⟩ := slotsOf_get h2
      refine ⟨by simp [l], fun j t e => ?_⟩
      cases j with
      | zero =>
        simp at e
        subst e
        exact ⟨x, rfl, h1⟩
      | succ j => simpa using k j t (by simpa using e)
    · cases h
theorem idxRef_some : ∀ {xs : List AV} {i j : Nat}, idxRef xs i = some j → xs[j]? = some (.ref i)
  | [], _, _, h => by cases h
  | .ref k :: r, i, j, h => by
    unfold idxRef at h
    by_cases q : k = i
    · rw [if_pos q] at h
      cases h
      rw [q]; rfl
    · rw [if_neg q] at h
      cases z : idxRef r i with
      | none => rw [z] at h; cases h
      | some m => rw [z] at h; cases h; exact (show r[m]? = some (.ref i) from idxRef_some z)
  | .fz _ :: r, i, j, h => by
    have h' : (idxRef r i).map (· + 1) = some j := h
    cases z : idxRef r i with
    | none => rw [z] at h'; cases h'
    | some m => rw [z] at h'; cases h'; exact (show r[m]? = some (.ref i) from idxRef_some z)
  | .see _ :: r, i, j, h => by
    have h' : (idxRef r i).map (· + 1) = some j := h
    cases z : idxRef r i with
    | none => rw [z] at h'; cases h'
    | some m => rw [z] at h'; cases h'; exact (show r[m]? = some (.ref i) from idxRef_some z)
theorem idxRef_none : ∀ {xs : List AV} {i j : Nat}, idxRef xs i = none → xs[j]? ≠ some (.ref i)
  | [], _, _, _ => by simp
  | .ref k :: r, i, j, h => by
    unfold idxRef at h
    by_cases q : k = i
    · rw [if_pos q] at h; cases h
    · rw [if_neg q] at h
      have z : idxRef r i = none := by simpa using h
      cases j with
      | zero => intro e; simp at e; exact q e
      | succ j => simpa using idxRef_none (j := j) z
  | .fz _ :: r, i, j, h => by
    have z : idxRef r i = none := by simpa [idxRef] using h
    cases j with
    | zero => simp
    | succ j => simpa using idxRef_none (j := j) z
  | .see _ :: r, i, j, h => by
    have z : idxRef r i = none := by simpa [idxRef] using h
    cases j with
    | zero => simp
    | succ j => simpa using idxRef_none (j := j) z
theorem refs_at : ∀ {xs : List AV} {i j k : Nat}, (refsOf xs).Nodup → xs[j]? = some (.ref i) → xs[k]? = some (.ref i) → j = k
  | [], _, _, _, _, h, _ => by simp at h
  | .ref m :: r, i, j, k, nd, h1, h2 => by
    have nd' := List.nodup_cons.mp (show (m :: refsOf r).Nodup from nd)
    have inR : ∀ {r : List AV} {l : Nat}, r[l]? = some (.ref i) → i ∈ refsOf r := by
      intro r
      induction r with
      | nil => intro l h; simp at h
      | cons x r ih =>
        intro l h
        cases l with
        | zero =>
          have e : x = .ref i := by simpa using h
          subst e
          exact List.mem_cons_self
        | succ l =>
          have q := ih (l := l) (by simpa using h)
          cases x with
          | ref _ => exact List.mem_cons_of_mem _ q
          | fz _ => exact q
          | see _ => exact q
    cases j with
    | zero =>
      have e : m = i := by simpa using h1
      cases k with
      | zero => rfl
      | succ k => exact absurd (inR (l := k) (by simpa using h2)) (by rw [← e]; exact nd'.1)
    | succ j =>
      cases k with
      | zero =>
        have e : m = i := by simpa using h2
        exact absurd (inR (l := j) (by simpa using h1)) (by rw [← e]; exact nd'.1)
      | succ k => exact congrArg (· + 1) (refs_at nd'.2 (by simpa using h1) (by simpa using h2))
  | .fz _ :: r, i, j, k, nd, h1, h2 => by
    cases j with
    | zero => simp at h1
    | succ j =>
      cases k with
      | zero => simp at h2
      | succ k => exact congrArg (· + 1) (refs_at (xs := r) nd (by simpa using h1) (by simpa using h2))
  | .see _ :: r, i, j, k, nd, h1, h2 => by
    cases j with
    | zero => simp at h1
    | succ j =>
      cases k with
      | zero => simp at h2
      | succ k => exact congrArg (· + 1) (refs_at (xs := r) nd (by simpa using h1) (by simpa using h2))
def fpC (xs : List AV) (fp : Nat → List Addr) : Nat → List Addr := fun j => match xs[j]? with
  | some (.ref i) => fp i
  | _ => []
theorem fpC_mem {xs : List AV} {j : Nat} {a : Addr} (m : a ∈ fpC xs fp j) : ∃ i, xs[j]? = some (.ref i) ∧ a ∈ fp i := by
  unfold fpC at m
  cases z : xs[j]? with
  | none => rw [z] at m; cases m
  | some x =>
    rw [z] at m
    cases x with
    | ref i => exact ⟨i, rfl, m⟩
    | fz _ => cases m
    | see _ => cases m
theorem fpC_ref {xs : List AV} {i j : Nat} (h : xs[j]? = some (.ref i)) : fpC xs fp j = fp i := by
  unfold fpC; rw [h]
theorem RS.call {vs : List V} {xs : List AV} {sl : List Slot} (rs : RS K mg G σ env H fp pv) (av : AVs K mg G σ vs xs) (hs : slotsOf env xs = some sl) (nd : (refsOf xs).Nodup) : RS K mg G (vs.map some) sl H (fpC xs fp) (fun j => vs.getD j .non) where
  len := by rw [List.length_map, av.length]; exact (slotsOf_get hs).1
  rel := fun j s e => by
    obtain ⟨x, hx, h1⟩ := (slotsOf_get hs).2 j s e
    obtain ⟨v, hv, ok⟩ := av.get hx
    have hσ : (vs.map some)[j]? = some (some v) := by rw [List.getElem?_map, hv]; rfl
    cases x with
    | fz x =>
      cases h1
      have z : fpC xs fp j = [] := by unfold fpC; rw [hx]
      exact ⟨v, hσ, by rw [z]; exact .f ok⟩
    | ref i =>
      rw [fpC_ref hx]
      have h1' : (VL.tree env i).map (fun k => Slot.rf k.2) = some s := h1
      cases zt : VL.tree env i with
      | none => rw [zt] at h1'; cases h1'
      | some kt =>
        rw [zt] at h1'
        cases h1'
        obtain ⟨_, u, hu, _, ow⟩ := rs.tree zt
        have hok : σ[i]? = some (some v) := ok
        rw [hu] at hok
        cases hok
        have e1 : vs.getD j .non = v := by rw [List.getD_eq_getElem?_getD, hv]; rfl
        exact ⟨by rw [e1]; exact hσ, by rw [e1]; exact ow⟩
    | see i =>
      have z : fpC xs fp j = [] := by unfold fpC; rw [hx]
      have h1' : (VL.rd env i).map Slot.vw = some s := h1
      cases zt : VL.rd env i with
      | none => rw [zt] at h1'; cases h1'
      | some t =>
        rw [zt] at h1'
        cases h1'
        obtain ⟨u, r, hu, ow⟩ := rs.rd zt
        have hok : σ[i]? = some (some v) := ok
        rw [hu] at hok
        cases hok
        exact ⟨z, _, r, hσ, ow⟩
  nil := fun j hj => by
    unfold fpC
    rw [List.getElem?_eq_none (by rw [← (slotsOf_get hs).1]; exact hj)]
  sub := rs.sub
  out := fun j a m => by
    obtain ⟨i, _, m⟩ := fpC_mem m
    exact rs.out i a m
  nd := fun j => by
    unfold fpC
    cases xs[j]? with
    | none => exact .nil
    | some x =>
      cases x with
      | ref i => exact rs.nd i
      | fz _ => exact .nil
      | see _ => exact .nil
  dj := fun j k a m1 m2 => by
    obtain ⟨i1, h1, m1⟩ := fpC_mem m1
    obtain ⟨i2, h2, m2⟩ := fpC_mem m2
    have e := rs.dj i1 i2 a m1 m2
    subst e
    exact refs_at nd h1 h2
def fpB (env : Env) (xs : List AV) (as : List Slot) (fp fp' : Nat → List Addr) : Nat → List Addr := fun i => match idxRef xs i with
  | none => fp i
  | some j => match as[j]?, env[i]? with
    | some (.rf _), some (.va _) => fp' j
    | some (.rf _), some (.rf _) => fp' j
    | _, _ => []
theorem fpB_none {as : List Slot} {xs : List AV} {i : Nat} (h : idxRef xs i = none) : fpB env xs as fp fp' i = fp i := by
  unfold fpB; rw [h]
theorem fpB_sub {as : List Slot} {xs : List AV} {i j : Nat} (h : idxRef xs i = some j) {a : Addr} (m : a ∈ fpB env xs as fp fp' i) : a ∈ fp' j := by
  unfold fpB at m
  rw [h] at m
  dsimp only at m
  split at m
  · exact m
  · exact m
  · cases m
theorem RS.backE {vs : List V} {xs : List AV} {as : List Slot} (rs : RS K mg G σ env H fp pv) (av : AVs K mg G σ vs xs) (nd : (refsOf xs).Nodup) (st : Stp G H (fpC xs fp) G' H' fp') (rs' : RS K mg G' (vs.map some) as H' fp' (fun j => vs.getD j .non)) :
    RS K mg G' σ (VL.backE env xs as) H' (fpB env xs as fp fp') pv ∧ Stp G H fp G' H' (fpB env xs as fp fp') ∧ ∀ r : List Addr, (∀ a ∈ r, (∀ j, a ∉ fp' j) ∧ (H a = none ∨ ∃ j, a ∈ fpC xs fp j)) → ∀ a ∈ r, (∀ i, a ∉ fpB env xs as fp fp' i) ∧ (H a = none ∨ ∃ j, a ∈ fp j) := by
  have there : ∀ i a, a ∈ fp i → H a ≠ none := fun i a m z => by
    obtain ⟨o, q⟩ := rs.there i a m
    rw [q] at z; cases z
  have outC : ∀ i a, idxRef xs i = none → a ∈ fp i → ∀ j, a ∉ fpC xs fp j := fun i a hi m j m2 => by
    obtain ⟨i2, h2, m2⟩ := fpC_mem m2
    have e := rs.dj i i2 a m m2
    subst e
    exact idxRef_none hi h2
  have keep : ∀ i a, idxRef xs i = none → a ∈ fp i → H' a = H a := fun i a hi m => by
    obtain ⟨o, q⟩ := rs.there i a m
    rw [q]
    exact st.fr a o q (outC i a hi m)
  have lenE : (VL.backE env xs as).length = env.length := by unfold VL.backE; exact List.length_mapIdx
  have getE : ∀ i s, (VL.backE env xs as)[i]? = some s → ∃ sl, env[i]? = some sl ∧ s = (match idxRef xs i with | none => dv sl | some j => back1 sl as[j]?) := fun i s e => by
    unfold VL.backE at e
    rw [List.getElem?_mapIdx] at e
    cases z : env[i]? with
    | none => rw [z] at e; cases e
    | some sl => rw [z] at e; exact ⟨sl, rfl, (Option.some.inj e).symm⟩
  have apart : ∀ i a j, idxRef xs i = none → a ∈ fp i → a ∉ fp' j := fun i a j hi m m2 => by
    rcases st.f j a m2 with q | ⟨k, q⟩
    · exact there i a m q
    · exact outC i a hi m k q
  refine ⟨⟨?_, fun i s e => ?_, fun i hi => ?_, rs'.sub, fun i a m => ?_, fun i => ?_, fun i k a m1 m2 => ?_⟩, ⟨st.g, fun b o h q => ?_, fun a o q => ?_, fun i a m => ?_, st.trk, st.fld⟩, fun r hr a m => ?_⟩
  · rw [lenE]; exact rs.len
  · obtain ⟨sl, hsl, es⟩ := getE i s e
    have r := rs.rel i sl hsl
    cases hi : idxRef xs i with
    | none =>
      rw [hi] at es
      rw [fpB_none hi]
      subst es
      cases sl with
      | no => exact r
      | va t =>
        obtain ⟨v, e1, ow⟩ := r
        exact ⟨v, e1, ow.mono st.g (keep i · hi)⟩
      | rf t =>
        obtain ⟨e1, ow⟩ := r
        exact ⟨e1, ow.mono st.g (keep i · hi)⟩
      | vw t => exact r.1
    | some j =>
      rw [hi] at es
      dsimp only at es
      have hx := idxRef_some hi
      obtain ⟨v, hv, ok⟩ := av.get hx
      have hok : σ[i]? = some (some v) := ok
      have e1 : vs.getD j .non = v := by rw [List.getD_eq_getElem?_getD, hv]; rfl
      cases ha : as[j]? with
      | none =>
        rw [ha] at es
        subst es
        show fpB env xs as fp fp' i = []
        unfold fpB; rw [hi]; dsimp only; rw [ha]
      | some u =>
        rw [ha] at es
        cases u with
        | rf t =>
          have r' := rs'.rel j _ ha
          rw [e1] at r'
          obtain ⟨_, ow'⟩ := r'
          cases sl with
          | va s0 =>
            have z : fpB env xs as fp fp' i = fp' j := by unfold fpB; rw [hi]; dsimp only; rw [ha, hsl]
            rw [z]
            subst es
            exact ⟨v, hok, ow'⟩
          | rf s0 =>
            have z : fpB env xs as fp fp' i = fp' j := by unfold fpB; rw [hi]; dsimp only; rw [ha, hsl]
            rw [z]
            subst es
            obtain ⟨e2, _⟩ := r
            rw [hok] at e2
            cases e2
            exact ⟨hok, ow'⟩
          | no =>
            subst es
            show fpB env xs as fp fp' i = []
            unfold fpB; rw [hi]; dsimp only; rw [ha, hsl]
          | vw s0 =>
            subst es
            show fpB env xs as fp fp' i = []
            unfold fpB; rw [hi]; dsimp only; rw [ha, hsl]
        | no =>
          subst es
          show fpB env xs as fp fp' i = []
          unfold fpB; rw [hi]; dsimp only; rw [ha]
        | va _ =>
          subst es
          show fpB env xs as fp fp' i = []
          unfold fpB; rw [hi]; dsimp only; rw [ha]
        | vw _ =>
          subst es
          show fpB env xs as fp fp' i = []
          unfold fpB; rw [hi]; dsimp only; rw [ha]
  · rw [lenE] at hi
    have hn : env[i]? = none := List.getElem?_eq_none hi
    cases z : idxRef xs i with
    | none => rw [fpB_none z]; exact rs.nil i hi
    | some j =>
      unfold fpB
      rw [z]
      dsimp only
      rw [hn]
      cases as[j]? with
      | none => rfl
      | some u => cases u <;> rfl
  · cases z : idxRef xs i with
    | none =>
      rw [fpB_none z] at m
      cases q : G' a with
      | none => rfl
      | some o =>
        rcases st.n a o q with k | k | ⟨j, k⟩
        · rw [rs.out i a m] at k; cases k
        · exact absurd k (there i a m)
        · exact absurd k (outC i a z m j)
    | some j => exact rs'.out j a (fpB_sub z m)
  · cases z : idxRef xs i with
    | none => rw [fpB_none z]; exact rs.nd i
    | some j =>
      unfold fpB
      rw [z]
      dsimp only
      split
      · exact rs'.nd j
      · exact rs'.nd j
      · exact .nil
  · cases z1 : idxRef xs i with
    | none =>
      rw [fpB_none z1] at m1
      cases z2 : idxRef xs k with
      | none => rw [fpB_none z2] at m2; exact rs.dj i k a m1 m2
      | some j => exact absurd (fpB_sub z2 m2) (apart i a j z1 m1)
    | some j1 =>
      have p1 := fpB_sub z1 m1
      cases z2 : idxRef xs k with
      | none => rw [fpB_none z2] at m2; exact absurd p1 (apart k a j1 z2 m2)
      | some j2 =>
        have e := rs'.dj j1 j2 a p1 (fpB_sub z2 m2)
        subst e
        have q := (idxRef_some z1).symm.trans (idxRef_some z2)
        cases q
        rfl
  · exact st.fr b o h fun j m => by
      obtain ⟨i, _, m⟩ := fpC_mem m
      exact q i m
  · rcases st.n a o q with k | k | ⟨j, k⟩
    · exact .inl k
    · exact .inr (.inl k)
    · obtain ⟨i, _, k⟩ := fpC_mem k
      exact .inr (.inr ⟨i, k⟩)
  · cases z : idxRef xs i with
    | none => rw [fpB_none z] at m; exact .inr ⟨i, m⟩
    | some j =>
      rcases st.f j a (fpB_sub z m) with q | ⟨k, q⟩
      · exact .inl q
      · obtain ⟨i2, _, q⟩ := fpC_mem q
        exact .inr ⟨i2, q⟩
  · obtain ⟨h1, h2⟩ := hr a m
    have h3 : H a = none ∨ ∃ j, a ∈ fp j := h2.imp id fun ⟨j, q⟩ => by
      obtain ⟨i, _, q⟩ := fpC_mem q
      exact ⟨i, q⟩
    refine ⟨fun i mi => ?_, h3⟩
    cases z : idxRef xs i with
    | none =>
      rw [fpB_none z] at mi
      rcases h2 with q | ⟨j, q⟩
      · exact there i a mi q
      · exact outC i a z mi j q
    | some j => exact h1 j (fpB_sub z mi)
theorem fpC_nil {xs : List AV} (h : refsOf xs = []) : fpC xs fp = fun _ => [] := by
  funext j
  unfold fpC
  cases z : xs[j]? with
  | none => rfl
  | some x =>
    cases x with
    | ref i =>
      exfalso
      have : i ∈ refsOf xs := by
        clear h
        induction xs generalizing j with
        | nil => simp at z
        | cons y ys ih =>
          cases j with
          | zero =>
            have e : y = .ref i := by simpa using z
            subst e
            exact List.mem_cons_self
          | succ j =>
            have q := ih j (by simpa using z)
            cases y with
            | ref _ => exact List.mem_cons_of_mem _ q
            | fz _ => exact q
            | see _ => exact q
      rw [h] at this
      cases this
    | fz _ => rfl
    | see _ => rfl
end
end VL

set_option Elab.async false
set_option linter.all false
set_option maxRecDepth 100000
set_option maxHeartbeats 4000000
namespace VL
open PySem PySem.Spec PyProof.Rows L2

section
variable {X : Cx} {W : WX} {a b c e o : Expr} {es : List Expr} {pos apos cpos : Pos} {st : Stmt} {sts : List Stmt}
def tAP (K : PySem.W.Frag) (mg : Str → Option Value) (W : WX) (n : Nat) (f : Env → Res (List AV)) : TA := fun σ H Q => ∃ G env fp pv, RS K mg G σ env H fp pv ∧
  PostR mg W σ H (fun xs => ∀ vs G' H', Ext G H G' H' → AVs K mg G' σ vs xs → xs.length = n → Q vs H') (f env)
abbrev VAP (X : Cx) (W : WX) (n : Nat) (es : List Expr) (f : Env → Res (List AV)) : Prop := PA X es (tAP X.K X.mg W n f)
def pN : Env → Res (List AV) := fun _ => .ok []
def pF (f : FP) (g : Env → Res (List AV)) : Env → Res (List AV) := fun env => (f env).bind fun x => (g env).bind fun xs => .ok (.fz x :: xs)
theorem vap_nil : VAP X W 0 [] pN := pa_imp pa_nil fun σ H Q ⟨G, env, fp, pv, rs, w⟩ => w [] G H (Ext.refl rs.sub) .nil rfl
theorem vap_f {n : Nat} {f : FP} {g : Env → Res (List AV)} (ha : VP X W e f) (hr : VAP X W n es g) (hs : starEach (e :: es) X.env = (false, eval e X.env) :: starEach es X.env) : VAP X W (n + 1) (e :: es) (pF f g) :=
  pa_imp (pa_cons ha hr hs) fun σ H Q ⟨G, env, fp, pv, rs, w⟩ => ⟨G, env, fp, pv, rs, by
    have w' := PostR.seq (k := fun x => PostR X.mg W σ H _ ((g env).bind _)) w fun y w => w
    exact PostR.imp w' (Same.refl _) fun x w v G1 H1 e1 q1 => ⟨G1, env, fp, pv, rs.ext e1, PostR.imp (PostR.seq (k := fun y => PostR X.mg W σ H _ (Res.ok (.fz x :: y))) w fun y w => w) e1.h fun xs w vs G2 H2 e2 q2 hl => w (v :: vs) G2 H2 (e1.trans e2) (.cons (Fq.mono e2.g q1) q2) (by simp [hl])⟩⟩
def tAX (K : PySem.W.Frag) (mg : Str → Option Value) (W : WX) (n : Nat) (f : Env → Out (List AV)) : TA := fun σ H Q => ∃ G env fp pv, RS K mg G σ env H fp pv ∧
  PostO K mg W σ G H fp pv (fun xs _ G' H' _ => ∀ vs, AVs K mg G' σ vs xs → xs.length = n → Q vs H') (f env)
abbrev VAX (X : Cx) (W : WX) (n : Nat) (es : List Expr) (f : Env → Out (List AV)) : Prop := PA X es (tAX X.K X.mg W n f)
def xP (f : Env → Res (List AV)) : Env → Out (List AV) := fun env => oR (f env) fun xs => .ok xs env
def xF (f : FP) (g : Env → Out (List AV)) : Env → Out (List AV) := fun env => oR (f env) fun x => (g env).bind fun xs e => .ok (.fz x :: xs) e
def xE1 (g : Env → Out (List AV)) (s : SV) (e : Env) : Out (List AV) := match s with
  | .f x => (g e).bind fun xs e => .ok (.fz x :: xs) e
  | _ => .bad
def xE (f : FE) (g : Env → Out (List AV)) : Env → Out (List AV) := fun env => (f env).bind (xE1 g)
theorem vax_p {n : Nat} {f : Env → Res (List AV)} (h : VAP X W n es f) : VAX X W n es (xP f) := pa_imp h fun σ H Q ⟨G, env, fp, pv, rs, w⟩ => ⟨G, env, fp, pv, rs, PostO.ofR rs w fun xs w vs G1 H1 e1 av hl =>
  w G1 H1 fp (Stp.of_ext e1) (rs.ext e1) vs av hl⟩
theorem PostO.impS {α : Type} {K : PySem.W.Frag} {mg : Str → Option Value} {G H : Hp} {fp : Nat → List Addr} {σ : L2.St} {pv : Nat → V} {W : WX} {k k' : α → Env → Hp → Hp → (Nat → List Addr) → Prop} {o : Out α} (h : PostO K mg W σ G H fp pv k o) (q : ∀ a e G' H' fp', Stp G H fp G' H' fp' → RS K mg G' σ e H' fp' pv → k a e G' H' fp' → k' a e G' H' fp') : PostO K mg W σ G H fp pv k' o := by
  cases o with
  | ok a e => exact fun G2 H2 fp2 s2 r => q _ _ _ _ _ s2 r (h G2 H2 fp2 s2 r)
  | err c => exact h
  | bad => exact h
theorem vax_f {n : Nat} {f : FP} {g : Env → Out (List AV)} (ha : VP X W e f) (hr : VAX X W n es g) (hs : starEach (e :: es) X.env = (false, eval e X.env) :: starEach es X.env) : VAX X W (n + 1) (e :: es) (xF f g) :=
  pa_imp (pa_cons ha hr hs) fun σ H Q ⟨G, env, fp, pv, rs, w⟩ => ⟨G, env, fp, pv, rs, PostO.ofR rs w fun x w v G1 H1 e1 q1 => by
    refine ⟨G1, env, fp, pv, rs.ext e1, PostO.impS (PostO.step (Stp.of_ext (fp := fp) e1) (PostO.seq0 w)) fun xs e' G2 H2 fp2 st rs2 ⟨_, st2, w2⟩ vs av hl => ?_⟩
    exact w2 G2 H2 fp2 st2 rs2 (v :: vs) (.cons (Fq.mono st.g q1) av) (by simp [hl])⟩
theorem vax_e {n : Nat} {f : FE} {g : Env → Out (List AV)} (ha : VE X W e f) (hr : VAX X W n es g) (hs : starEach (e :: es) X.env = (false, eval e X.env) :: starEach es X.env) : VAX X W (n + 1) (e :: es) (xE f g) :=
  pa_imp (pa_cons ha hr hs) fun σ H Q ⟨G, env, fp, pv, rs, w⟩ => ⟨G, env, fp, pv, rs, PostO.impS (PostO.seq0 w) fun s e1 G1 H1 fp1 st1 rs1 ⟨_, _, w1⟩ v r ow nd fr => by
    unfold xE1 at w1
    cases s with
    | f x =>
      cases ow with
      | f q1 =>
        refine ⟨G1, e1, fp1, pv, rs1, PostO.impS (PostO.step st1 (PostO.seq0 w1)) fun xs e' G2 H2 fp2 st rs2 ⟨_, st2, w2⟩ vs av hl => ?_⟩
        exact w2 G2 H2 fp2 st2 rs2 (v :: vs) (.cons (Fq.mono st.g q1) av) (by simp [hl])
    | own _ => exact w1.elim
    | otup _ => exact w1.elim
    | obj _ _ => exact w1.elim⟩

def callP (S : Fn) (env : Env) (xs : List AV) : Res SV := match slotsOf env xs with
  | some sl => if refsOf xs = [] then outR (S sl) else .bad
  | none => .bad
def callX (S : Fn) (xs : List AV) (e : Env) : Out SV := match slotsOf e xs with
  | some sl => if (refsOf xs).Nodup then (match S sl with
    | .ret s as => .ok s (backE e xs as)
    | .exc c => .err c
    | .bad => .bad) else .bad
  | none => .bad
theorem callP_ok {n : Nat} {S : Fn} {σ : L2.St} {G H : Hp} {env : Env} {fp : Nat → List Addr} {pv : Nat → V} {vs : List V} {xs : List AV} {Q : VK} (rs : RS X.K X.mg G σ env H fp pv) (av : AVs X.K X.mg G σ vs xs) (hl : xs.length = n)
    (w : PostR X.mg W σ H (jO X.K X.mg Q G H) (callP S env xs)) : spV X.K X.mg n S vs H Q (WE W σ) := by
  unfold callP at w
  cases z : slotsOf env xs with
  | none => rw [z] at w; exact w.elim
  | some sl =>
    rw [z] at w
    dsimp only at w
    by_cases hr : refsOf xs = []
    · rw [if_pos hr] at w
      have rs2 := rs.call av z (by rw [hr]; exact .nil)
      rw [fpC_nil hr] at rs2
      refine ⟨by rw [av.length]; exact hl, G, sl, fun _ => [], _, rs2, ?_⟩
      cases q : S sl with
      | ret s as =>
        rw [q] at w
        refine fun v G2 H2 fp2 r st rs3 ow nd fr => w v G2 H2 r (st.ext0 rs3.sub) ow nd fun a m => ⟨?_, (fr a m).1⟩
        rcases (fr a m).2.2 with k | ⟨_, k⟩
        · exact k
        · cases k
      | exc c =>
        rw [q] at w
        exact fun C G2 H2 m k _ => w C H2 m fun b o h => k.fr b o h fun _ q => by cases q
      | bad => rw [q] at w; exact w.elim
    · rw [if_neg hr] at w; exact w.elim
theorem callX_ok {n : Nat} {S : Fn} {σ : L2.St} {G H : Hp} {env : Env} {fp : Nat → List Addr} {pv : Nat → V} {vs : List V} {xs : List AV} {Q : VK} (rs : RS X.K X.mg G σ env H fp pv) (av : AVs X.K X.mg G σ vs xs) (hl : xs.length = n)
    (w : PostO X.K X.mg W σ G H fp pv (kE X.K X.mg Q H fp) (callX S xs env)) : spV X.K X.mg n S vs H Q (WE W σ) := by
  unfold callX at w
  cases z : slotsOf env xs with
  | none => rw [z] at w; exact w.elim
  | some sl =>
    rw [z] at w
    dsimp only at w
    by_cases hr : (refsOf xs).Nodup
    · rw [if_pos hr] at w
      have rs2 := rs.call av z hr
      refine ⟨by rw [av.length]; exact hl, G, sl, _, _, rs2, ?_⟩
      cases q : S sl with
      | ret s as =>
        rw [q] at w
        intro v G2 H2 fp2 r st rs3 ow nd fr
        obtain ⟨rb, sb, k⟩ := rs.backE av hr st rs3
        have kr := k r fun a m => ⟨(fr a m).2.1, (fr a m).2.2⟩
        exact w G2 H2 _ sb rb v r ow nd fun a m => ⟨(fr a m).1, (kr a m).1, (kr a m).2⟩
      | exc c =>
        rw [q] at w
        have w' : PostO X.K X.mg W σ G H fp pv (kE X.K X.mg Q H fp) (Out.err c) := w
        have inF : ∀ b j, b ∈ fpC xs fp j → ∃ i, b ∈ fp i := fun b j m => by
          obtain ⟨i, _, m⟩ := fpC_mem m
          exact ⟨i, m⟩
        refine fun C G2 H2 m k s => w' C G2 H2 m ⟨k.g, fun b o h q => k.fr b o h fun j m => ?_, fun a o q => ?_, (fun _ _ m => by cases m), k.trk, k.fld⟩ s
        · obtain ⟨i, m⟩ := inF b j m
          exact q i m
        · rcases k.n a o q with z | z | ⟨j, z⟩
          · exact .inl z
          · exact .inr (.inl z)
          · exact .inr (.inr (inF a j z))
      | bad => rw [q] at w; exact w.elim
    · rw [if_neg hr] at w; exact w.elim
def MDef (P : Program) (w : World) (K : PySem.W.Frag) (mg : Str → Option Value) (base : Heap) (k n : Nat) (c m : Str) (ps : List Str) (S : Fn) : Prop :=
  ∃ (C f : Addr) (fd : FuncData), mg c = some (.ref C) ∧ Cls K C ∧ Meth K C m f ∧ FnOk P w K mg base (L2.CX P w) k f fd ps (spV K mg n S) ∧ Binds K fd ps []
theorem pe_methV {k : Nat} {C f : Addr} {fd : FuncData} {ps : List Str} {sp : Sp} {E : L2.St → XK} {m : Str} {ta : TE} {t : TA} {pl : Sem Bool} (he : PE X o ta) (c : Cls X.K C) (hm : Meth X.K C m f) (F : FnOk X.prog X.w X.K X.mg X.base (L2.CX X.prog X.w) k f fd ps sp) (hr : Room k X.A) (hb : Binds X.K fd ps []) (hx : ∀ σ, PassesAt (L2.CX X.prog X.w) X σ (E σ)) (ha : PA X (e :: es) t)
    (hst : starEach (e :: es) X.env = (false, eval e X.env) :: starEach es X.env := by rfl) (hpl : (backTo pos (starEach es X.env)).any (·.1) = false := by rfl)
    (ht : eval (.Call (.Attribute o m apos) (e :: es) [] pos) X.env = (do
      let ov ← eval o X.env
      standAt apos.atName
      let (f, first) ← holding [ov] (getMethod ov m pl)
      callWith pos f first (backTo pos (starEach (e :: es) X.env)) (backToKw pos (keywordEach [] X.env))) := by rfl) :
    PE X (.Call (.Attribute o m apos) (e :: es) [] pos) (L2H.tMethH C m sp E ta t) := by
  refine ⟨fun pins s σ H Q I h => ?_⟩
  refine PySem.W.methodCall_KW (pl := pl) (thn (he.run pins s σ H _ I h) fun u s1 ⟨x, H1, I1, rx, a, dx, fs, ex, ea, l, q⟩ => ?_) ht
  subst ex
  obtain rfl : u = Value.ref a := rx
  refine getmeth_ok I1 ea c hm l ?_
  refine PySem.W.callWith_K (first := [.ref a]) (h₀ := X.base) I.ok.mod.kin hm.kp (thn (ha.run pos pins s1 σ H1 _ I1 q) fun us s2 ⟨vs, H2, I2, r, q2⟩ => ⟨I2.kIn, ?_⟩) hst hpl
  exact run_fnS (us := .ref a :: us) (vs := .ref a :: vs) F hr hb (hx σ) I2 (.cons rfl r) q2
def recv (env : Env) (i : Nat) (cn m : Str) : Bool := match rd env i with
  | some (.obj c fs) => decide (c = cn) && (fs.lookup m).isNone
  | _ => false
def vMethP (cn m : Str) (S : Fn) (i : Nat) (fs : Env → Res (List AV)) : FO := fun env => if recv env i cn m = true then (fs env).bind fun xs => callP S env (.see i :: xs) else .bad
def vMethX (cn m : Str) (S : Fn) (i : Nat) (fs : Env → Out (List AV)) : FE := fun env => if recv env i cn m = true then (fs env).bind fun xs e => callX S (.ref i :: xs) e else .bad
theorem recv_ok {G H : Hp} {fp : Nat → List Addr} {σ : L2.St} {env : Env} {pv : Nat → V} {i : Nat} {cn m : Str} {C : Addr} (rs : RS X.K X.mg G σ env H fp pv) (h : recv env i cn m = true) (hc : X.mg cn = some (.ref C)) : ∃ a dx vs, σ[i]? = some (some (.ref a)) ∧ H a = some (.ins C dx vs) ∧ vs.lookup m = none := by
  unfold recv at h
  cases z : rd env i with
  | none => rw [z] at h; cases h
  | some s =>
    rw [z] at h
    cases s with
    | obj c fs =>
      dsimp only at h
      rw [Bool.and_eq_true] at h
      have ec : c = cn := of_decide_eq_true h.1
      obtain ⟨v, r, hv, ow⟩ := rs.rd z
      cases ow with
      | @obj a C' dx _ vs _ rr hm hH of =>
        rw [ec, hc] at hm
        cases hm
        exact ⟨a, dx, vs, hv, hH, of.look_none (by simpa using h.2)⟩
    | f _ => cases h
    | own _ => cases h
    | otup _ => cases h
theorem vo_methD {k j n i : Nat} {cn m : Str} {ps : List Str} {S : Fn} {fs : Env → Res (List AV)} {pl : Sem Bool} (D : MDef X.prog X.w X.K X.mg X.base k (n + 1) cn m ps S) (hr : Room j X.A) (hkj : k ≤ j) (tk : Takes X W) (ho : PE X o (tVar i)) (ha : VAP X W n (e :: es) fs)
    (hst : starEach (e :: es) X.env = (false, eval e X.env) :: starEach es X.env := by rfl) (hpl : (backTo pos (starEach es X.env)).any (·.1) = false := by rfl)
    (ht : eval (.Call (.Attribute o m apos) (e :: es) [] pos) X.env = (do
      let ov ← eval o X.env
      standAt apos.atName
      let (f, first) ← holding [ov] (getMethod ov m pl)
      callWith pos f first (backTo pos (starEach (e :: es) X.env)) (backToKw pos (keywordEach [] X.env))) := by rfl) :
    VO X W (.Call (.Attribute o m apos) (e :: es) [] pos) (vMethP cn m S i fs) := by
  obtain ⟨C, f, fd, hc, c, hm, F, b⟩ := D
  exact pe_imp (pe_methV (pl := pl) ho c hm F (hr.mono hkj) b (fun σ => passAt tk σ) ha hst hpl ht) fun σ H Q ⟨G, env, fp, pv, rs, w⟩ => by
    unfold vMethP at w
    by_cases hv : recv env i cn m = true
    · rw [if_pos hv] at w
      obtain ⟨a, dx, vs0, h1, h2, h3⟩ := recv_ok rs hv hc
      refine ⟨.ref a, h1, a, dx, vs0, rfl, h2, h3, G, env, fp, pv, rs, PostR.seq w fun xs w vs G1 H1 e1 av hl => ?_⟩
      exact callP_ok (rs.ext e1) (.cons (x := .see i) h1 av) (by simp [hl]) (PostR.imp w e1.h fun s q => jO.ext e1 q)
    · rw [if_neg hv] at w; exact w.elim
theorem ve_methD {k j n i : Nat} {cn m : Str} {ps : List Str} {S : Fn} {fs : Env → Out (List AV)} {pl : Sem Bool} (D : MDef X.prog X.w X.K X.mg X.base k (n + 1) cn m ps S) (hr : Room j X.A) (hkj : k ≤ j) (tk : Takes X W) (ho : PE X o (tVar i)) (ha : VAX X W n (e :: es) fs)
    (hst : starEach (e :: es) X.env = (false, eval e X.env) :: starEach es X.env := by rfl) (hpl : (backTo pos (starEach es X.env)).any (·.1) = false := by rfl)
    (ht : eval (.Call (.Attribute o m apos) (e :: es) [] pos) X.env = (do
      let ov ← eval o X.env
      standAt apos.atName
      let (f, first) ← holding [ov] (getMethod ov m pl)
      callWith pos f first (backTo pos (starEach (e :: es) X.env)) (backToKw pos (keywordEach [] X.env))) := by rfl) :
    VE X W (.Call (.Attribute o m apos) (e :: es) [] pos) (vMethX cn m S i fs) := by
  obtain ⟨C, f, fd, hc, c, hm, F, b⟩ := D
  exact pe_imp (pe_methV (pl := pl) ho c hm F (hr.mono hkj) b (fun σ => passAt tk σ) ha hst hpl ht) fun σ H Q ⟨G, env, fp, pv, rs, w⟩ => by
    unfold vMethX at w
    by_cases hv : recv env i cn m = true
    · rw [if_pos hv] at w
      obtain ⟨a, dx, vs0, h1, h2, h3⟩ := recv_ok rs hv hc
      refine ⟨.ref a, h1, a, dx, vs0, rfl, h2, h3, G, env, fp, pv, rs, PostO.impS (PostO.seq0 w) fun xs e1 G1 H1 fp1 st1 rs1 ⟨_, _, w1⟩ vs av hl => ?_⟩
      exact callX_ok rs1 (.cons (x := .ref i) h1 av) (by simp [hl]) (PostO.imp (PostO.step st1 w1) fun s e G' H' fp' k v r ow nd fr => k v r ow nd (Fresh.step st1 fr))
    · rw [if_neg hv] at w; exact w.elim
end
end VL

set_option Elab.async false
set_option linter.all false
set_option maxRecDepth 100000
set_option maxHeartbeats 4000000
namespace VL
open PySem PySem.Spec PyProof.Rows L2

def subE (c d : Str) : Bool := decide (c = d) || decide (d = "VeilError")
section
variable {X : Cx} {W : WX} {a b c e o : Expr} {es : List Expr} {pos apos cpos : Pos} {st : Stmt} {sts : List Stmt}
theorem RS.ofSet {K : PySem.W.Frag} {mg : Str → Option Value} {G H : Hp} {fp : Nat → List Addr} {σ : L2.St} {env : Env} {pv : Nat → V} (h : RS K mg G σ env H fp pv) (i : Nat) (o : Option V) : RS K mg G (σ.set i o) (env.set i .no) H (fun j => if j = i then [] else fp j) pv := by
  have d := h.drop i
  refine ⟨by rw [List.length_set, List.length_set]; exact h.len, fun j u e => ?_, d.nil, d.sub, d.out, d.nd, d.dj⟩
  have r := d.rel j u e
  by_cases hj : j = i
  · subst hj
    by_cases hl : j < env.length
    · rw [List.getElem?_set_self hl] at e
      cases e
      exact r
    · rw [List.getElem?_eq_none (by rw [List.length_set]; omega)] at e; cases e
  · rw [List.getElem?_set_ne (Ne.symm hj)]
    exact r
variable {x : Addr} {i : Nat}
noncomputable def catL : PyData → PyData → Res SV
  | .list xs, .list ys => cIf (xs.length + ys.length ≤ 16777216) (.ok (SV.dl (xs ++ ys))) .bad
  | _, _ => .bad
end
end VL

set_option Elab.async false
set_option linter.all false
set_option maxRecDepth 100000
set_option maxHeartbeats 4000000
namespace VL
open PySem PySem.Spec PyProof.Rows L2

def frzE (env : Env) (i : Nat) (ps : List Pst) : Option Env := match tree env i with
  | some (kd, s) => match subS s ps with
    | some t => match t.frz? with
      | some x => some (env.set i (kd.mk (updS s ps (.f x))))
      | none => none
    | none => none
  | none => none
section
variable {K : PySem.W.Frag} {mg : Str → Option Value} {G G' H H' : Hp} {fp fp' : Nat → List Addr} {σ : L2.St} {env e : Env} {pv : Nat → V}
theorem RS.grow {r : List Addr} (h : RS K mg G σ env H fp pv) (hr : ∀ a ∈ r, ∀ i, a ∉ fp i) : RS K mg (gu G H r) σ env H fp pv where
  len := h.len
  rel := fun i s e => (h.rel i s e).mono (gu_same h.sub) (Same.refl _)
  nil := h.nil
  sub := gu_sub h.sub
  out := fun i a m => by
    rw [gu_out fun q => hr a q i m]
    exact h.out i a m
  nd := h.nd
  dj := h.dj
theorem RS.frz (rs : RS K mg G σ env H fp pv) {i : Nat} {ps : List Pst} (h : frzE env i ps = some e) : ∃ r fp', RS K mg (gu G H r) σ e H fp' pv ∧ (∀ a ∈ r, a ∈ fp i) ∧ ∀ j a, a ∈ fp' j → a ∈ fp j := by
  unfold frzE at h
  cases z : VL.tree env i with
  | none => rw [z] at h; cases h
  | some kt =>
    obtain ⟨kd, s⟩ := kt
    rw [z] at h
    dsimp only at h
    cases zs : subS s ps with
    | none => rw [zs] at h; cases h
    | some t =>
      rw [zs] at h
      dsimp only at h
      cases zf : t.frz? with
      | none => rw [zf] at h; cases h
      | some x =>
        rw [zf] at h
        cases h
        obtain ⟨hs, v, hv, hp, ow⟩ := rs.tree z
        have hi : i < env.length := (List.getElem?_eq_some_iff.mp hs).1
        obtain ⟨u, r1, e1, o1, n1, s1, ex⟩ := ow.exch (rs.nd i) zs
        have g : Same G (gu G H r1) := gu_same rs.sub
        obtain ⟨r', o', n', q'⟩ := ex (G' := gu G H r1) (H' := H) (t' := .f x) (r1' := []) ⟨g, fun _ _ _ => rfl, .f (o1.frozenF g (fun a m o e => by rw [gu_in m]; exact e) zf), .nil, fun _ m => by cases m⟩
        have sub' : ∀ a ∈ r', a ∈ fp i ∧ a ∉ r1 := fun a m => by
          rcases q' a m with q | q
          · cases q
          · exact q
        refine ⟨r1, fun j => if j = i then r' else fp j, ⟨?_, fun j u e => ?_, fun j hj => ?_, gu_sub rs.sub, fun j a m => ?_, fun j => ?_, fun j k a m1 m2 => ?_⟩, s1, fun j a m => ?_⟩
        · rw [List.length_set]; exact rs.len
        · by_cases q : j = i
          · subst q
            rw [List.getElem?_set_self hi] at e
            cases e
            rw [if_pos rfl]
            cases kd with
            | va => exact ⟨v, hv, o'⟩
            | rf => rw [← hp rfl]; exact ⟨hv, o'⟩
          · rw [List.getElem?_set_ne (Ne.symm q)] at e
            rw [if_neg q]
            exact (rs.rel j u e).mono g (Same.refl _)
        · rw [List.length_set] at hj
          show (if j = i then r' else fp j) = []
          rw [if_neg (by omega)]
          exact rs.nil j hj
        · by_cases q : j = i
          · rw [if_pos q] at m
            obtain ⟨m1, m2⟩ := sub' a m
            rw [gu_out m2]
            exact rs.out i a m1
          · rw [if_neg q] at m
            rw [gu_out fun m2 => q (rs.dj j i a m (s1 a m2))]
            exact rs.out j a m
        · show (if j = i then r' else fp j).Nodup
          by_cases q : j = i
          · rw [if_pos q]; exact n'
          · rw [if_neg q]; exact rs.nd j
        · by_cases q1 : j = i
          · rw [if_pos q1] at m1
            by_cases q2 : k = i
            · rw [q1, q2]
            · rw [if_neg q2] at m2
              exact absurd (rs.dj k i a m2 (sub' a m1).1) q2
          · rw [if_neg q1] at m1
            by_cases q2 : k = i
            · rw [if_pos q2] at m2
              exact absurd (rs.dj j i a m1 (sub' a m2).1) q1
            · rw [if_neg q2] at m2; exact rs.dj j k a m1 m2
        · have m' : a ∈ (if j = i then r' else fp j) := m
          by_cases q : j = i
          · rw [if_pos q] at m'; rw [q]; exact (sub' a m').1
          · rw [if_neg q] at m'; exact m'
end
section
variable {X : Cx} {W : WX} {a b c e o : Expr} {es : List Expr} {pos apos cpos : Pos} {st : Stmt} {sts : List Stmt}
def vFrz (i : Nat) (ps : List Pst) : ST := fun env => match frzE env i ps with
  | some e => .nx e
  | none => .bad
theorem vss_frz {i : Nat} {ps : List Pst} {g : ST} (h : VSs X W sts g) : VSs X W sts (vSeq (vFrz i ps) g) := pss_imp h fun D σ H ⟨G, env, fp, pv, rs, w⟩ => by
  unfold vSeq vFrz at w
  cases z : frzE env i ps with
  | none => rw [z] at w; exact w.elim
  | some e1 =>
    rw [z] at w
    obtain ⟨r, fp', rs', hr, hs⟩ := rs.frz z
    refine ⟨_, e1, fp', pv, rs', w.step ⟨gu_same rs.sub, fun b o h _ => h, fun a o q => ?_, fun j a m => .inr ⟨j, hs j a m⟩, fun b h => h, fun a C dx vs h => ⟨vs, h, fun _ _ _ q => q⟩⟩⟩
    by_cases m : a ∈ r
    · exact .inr (.inr ⟨i, hr a m⟩)
    · rw [gu_out m] at q; exact .inl q
def frE (f : FE) : FE := fun env => (f env).bind fun s e => match s.frz? with
  | some x => .ok (.f x) e
  | none => .bad
theorem ve_fr {f : FE} (h : VE X W e f) : VE X W e (frE f) := pe_imp h fun σ H Q ⟨G, env, fp, pv, rs, w⟩ => ⟨G, env, fp, pv, rs, PostO.impS (PostO.seq0 w) fun s e' G1 H1 fp1 st rs1 ⟨_, _, w1⟩ v r ow nd fr => by
  cases z : s.frz? with
  | none => rw [z] at w1; exact w1.elim
  | some x =>
    rw [z] at w1
    have g : Same G1 (gu G1 H1 r) := gu_same rs1.sub
    refine w1 (gu G1 H1 r) H1 fp1 ⟨st.g.trans g, st.fr, fun a o q => ?_, st.f, st.trk, st.fld⟩ (rs1.grow fun a m => (fr a m).2.1) v [] (.f (ow.frozenF g (fun a m o e => by rw [gu_in m]; exact e) z)) .nil fun a m => by cases m
    by_cases m : a ∈ r
    · rcases (fr a m).2.2 with k | ⟨j, k⟩
      · exact .inr (.inl k)
      · exact .inr (.inr ⟨j, k⟩)
    · rw [gu_out m] at q
      exact st.n a o q⟩
end
end VL

set_option Elab.async false
set_option linter.all false
set_option maxRecDepth 100000
set_option maxHeartbeats 4000000
namespace VL
open PySem PySem.Spec PyProof.Rows L2

def wipeD (e : Env) (vs : List Nat) : Env := (wipeE e vs).map dv
def noO {α : Type} : Out α → Out α
  | .ok a e => .ok a e
  | _ => .bad
theorem noO_ok {α : Type} {K : PySem.W.Frag} {mg : Str → Option Value} {W : WX} {σ : L2.St} {G H : Hp} {fp : Nat → List Addr} {pv : Nat → V} {k : α → Env → Hp → Hp → (Nat → List Addr) → Prop} {o : Out α}
    (h : match noO o with | .ok a e => ∀ G' H' fp', Stp G H fp G' H' fp' → RS K mg G' σ e H' fp' pv → k a e G' H' fp' | _ => False) : PostO K mg W σ G H fp pv k o := by
  cases o with
  | ok a e => exact h
  | err c => exact h.elim
  | bad => exact h.elim
def compLE (g : Tgt) (elt : FE) (vs : List Nat) : List PyData → Env → Out (List SV)
  | [], e => .ok [] e
  | x :: xs, e => match g x e with
    | none => .bad
    | some e1 => (noO (elt e1)).bind fun y e2 => (compLE g elt vs xs (wipeD e2 vs)).bind fun ys e3 => .ok (y :: ys) e3
noncomputable def vCompE (it : IT) (g : Tgt) (elt : FE) (vs : List Nat) : FE := fun env => oR (it env) fun items => cIf (items.length ≤ 16777216) ((compLE g elt vs items (wipeD env vs)).bind fun ys e => .ok (.own ys) e) .bad
section
variable {X : Cx} {W : WX} {a b c e tg : Expr} {es : List Expr} {pos apos cpos : Pos} {st : Stmt} {sts : List Stmt}
theorem wipeE_length (e : Env) : ∀ vs : List Nat, (wipeE e vs).length = e.length
  | [] => rfl
  | v :: vs => by show ((wipeE e vs).set v .no).length = _; rw [List.length_set, wipeE_length e vs]
theorem wipeE_no (e : Env) : ∀ (vs : List Nat) (j : Nat) (s : Slot), j ∈ vs → (wipeE e vs)[j]? = some s → s = .no
  | [], j, s, m, _ => by cases m
  | v :: vs, j, s, m, h => by
    have h' : ((wipeE e vs).set v .no)[j]? = some s := h
    by_cases q : j = v
    · subst q
      by_cases hl : j < (wipeE e vs).length
      · rw [List.getElem?_set_self hl] at h'
        exact (Option.some.inj h').symm
      · rw [List.getElem?_eq_none (by rw [List.length_set]; omega)] at h'; cases h'
    · rw [List.getElem?_set_ne (Ne.symm q)] at h'
      rcases List.mem_cons.mp m with z | z
      · exact absurd z q
      · exact wipeE_no e vs j s z h'
theorem wipe_get (σ : L2.St) : ∀ (vs : List Nat) (j : Nat), j ∉ vs → (L2.wipe σ vs)[j]? = σ[j]?
  | [], _, _ => rfl
  | v :: vs, j, m => by
    show ((L2.wipe σ vs).set v none)[j]? = _
    rw [List.getElem?_set_ne (fun q => m (by rw [← q]; exact List.mem_cons_self)), wipe_get σ vs j fun q => m (List.mem_cons_of_mem _ q)]
theorem RS.unwipe {K : PySem.W.Frag} {mg : Str → Option Value} {G H : Hp} {σ σ' : L2.St} {env : Env} {fp : Nat → List Addr} {pv : Nat → V} {vs : List Nat} (h : RS K mg G (L2.wipe σ' vs) (wipeE env vs) H fp pv) (e : L2.wipe σ' vs = L2.wipe σ vs) : RS K mg G σ (wipeE env vs) H fp pv where
  len := by rw [h.len, e, L2.wipe_length]
  rel := fun j s q => by
    have r := h.rel j s q
    by_cases m : j ∈ vs
    · have z := wipeE_no env vs j s m q
      subst z
      exact r
    · rw [e, wipe_get σ vs j m] at r
      exact r
  nil := h.nil
  sub := h.sub
  out := h.out
  nd := h.nd
  dj := h.dj
theorem RS.wipeF {K : PySem.W.Frag} {mg : Str → Option Value} {G H : Hp} {σ : L2.St} {env : Env} {fp : Nat → List Addr} {pv : Nat → V} (h : RS K mg G σ env H fp pv) : ∀ vs : List Nat, ∃ fp', RS K mg G (L2.wipe σ vs) (wipeE env vs) H fp' pv ∧ ∀ j a, a ∈ fp' j → a ∈ fp j
  | [] => ⟨fp, h, fun _ _ m => m⟩
  | v :: vs => by
    obtain ⟨fp', q, sb⟩ := RS.wipeF h vs
    refine ⟨_, q.ofSet v none, fun j a m => ?_⟩
    have m' : a ∈ (if j = v then [] else fp' j) := m
    by_cases hj : j = v
    · rw [if_pos hj] at m'; cases m'
    · rw [if_neg hj] at m'; exact sb j a m'
theorem RS.dvs {K : PySem.W.Frag} {mg : Str → Option Value} {G H : Hp} {σ : L2.St} {env : Env} {fp : Nat → List Addr} {pv : Nat → V} (h : RS K mg G σ env H fp pv) : RS K mg G σ (env.map dv) H fp pv where
  len := by rw [List.length_map]; exact h.len
  rel := fun j s q => by
    obtain ⟨t, ht, rfl⟩ := dv_get q
    have r := h.rel j t ht
    cases t with
    | vw s => exact r.1
    | no => exact r
    | va s => exact r
    | rf s => exact r
  nil := fun i hi => h.nil i (by rw [List.length_map] at hi; exact hi)
  sub := h.sub
  out := h.out
  nd := h.nd
  dj := h.dj
theorem wipeE_out (e : Env) (j : Nat) : ∀ vs : List Nat, j ∉ vs → (wipeE e vs)[j]? = e[j]?
  | [], _ => rfl
  | v :: vs, m => by
    show ((wipeE e vs).set v .no)[j]? = _
    rw [List.getElem?_set_ne (fun q => m (by rw [← q]; exact List.mem_cons_self)), wipeE_out e j vs fun q => m (List.mem_cons_of_mem _ q)]
theorem wipeD_wipe (e : Env) (vs : List Nat) : wipeE (wipeD e vs) vs = wipeD e vs := by
  apply List.ext_getElem?
  intro j
  by_cases m : j ∈ vs
  · by_cases hj : j < e.length
    · have l1 : j < (wipeE (wipeD e vs) vs).length := by rw [wipeE_length]; unfold wipeD; rw [List.length_map, wipeE_length]; exact hj
      have l2 : j < (wipeE e vs).length := by rw [wipeE_length]; exact hj
      have q1 := wipeE_no (wipeD e vs) vs j _ m (List.getElem?_eq_getElem l1)
      have q2 := wipeE_no e vs j _ m (List.getElem?_eq_getElem l2)
      rw [List.getElem?_eq_getElem l1, q1]
      unfold wipeD
      rw [List.getElem?_map, List.getElem?_eq_getElem l2, q2]
      rfl
    · rw [List.getElem?_eq_none (by rw [wipeE_length]; unfold wipeD; rw [List.length_map, wipeE_length]; omega), List.getElem?_eq_none (by unfold wipeD; rw [List.length_map, wipeE_length]; omega)]
  · rw [wipeE_out _ _ _ m]
theorem imp_compE {it : IT} {g : Tgt} {ts : List Nat} {elt : FE} {vs : List Nat} (hts : ∀ j ∈ ts, j ∈ vs) {σ : L2.St} {H : Hp} {Q : VK} (h : tE X.K X.mg W (vCompE it g elt vs) σ H Q) :
    tLc (tItF X.K X.mg W it) (tG X.K X.mg ts g) (tT X.K X.mg (fun _ _ _ _ => False) vYes) (tE X.K X.mg (fun _ _ _ _ => False) elt) vs σ H Q := by
  obtain ⟨G, env, fp, pv, rs, w⟩ := h
  refine ⟨G, env, fp, pv, rs, PostO.ofR rs w fun items w J G1 H1 e1 io D hD => ?_⟩
  by_cases hsz : items.length ≤ 16777216
  · rw [cIf_pos hsz] at w
    have rs1 := rs.ext e1
    obtain ⟨fw, rw0, sw⟩ := rs1.wipeF vs
    have rsw := (rw0.unwipe (σ := σ) rfl).dvs
    let Cst : Nat → Hp → Prop := fun i H2 => ∃ G2 env2 fp2 accV accS r, RS X.K X.mg G2 σ (wipeD env2 vs) H2 fp2 pv ∧ Stp G H fp G2 H2 fp2 ∧ Same G1 G2 ∧ H2 D = some (.lst accV) ∧ G2 D = none ∧ (∀ j, D ∉ fp2 j) ∧ Ows X.K X.mg G2 H2 accV accS r ∧ (D :: r).Nodup ∧
      (∀ a ∈ r, G2 a = none ∧ (∀ j, a ∉ fp2 j) ∧ (H a = none ∨ ∃ j, a ∈ fp j)) ∧ PostO X.K X.mg W σ G H fp pv (kE X.K X.mg Q H fp) ((compLE g elt vs (items.drop i) (wipeD env2 vs)).bind fun ys e => .ok (.own (accS ++ ys)) e) ∧ accV.length ≤ i
    have hD0 : H D = none := none_back e1.h hD
    have stw : Stp G H fp G1 H1 fw := (Stp.of_ext (fp := fp) e1).sub fun j b m => .inr ⟨j, sw j b m⟩
    have exD : Ext G1 H1 G1 (upd H1 D (.lst [])) := Ext.newO e1.s hD
    refine ⟨fun i m H2 => m + i = items.length ∧ Cst i H2, ⟨items.length, by omega, G1, env, fw, [], [], [], rsw.ext exD, stw.trans (Stp.of_ext exD), Same.refl _, upd_same, none_back e1.s hD, rsw.notin hD, .nil, (by simp), (fun a m => by cases m), w, Nat.zero_le _⟩, ?_⟩
    rintro i m H2 ⟨em, G2, env2, fp2, accV, accS, r, rs2, st2, gg2, hD2, hG2, nf2, ow2, nd2, fr2, w2, hl2⟩
    obtain ⟨hstop, hgo⟩ := io G2 H2 gg2 (gg2.trans rs2.sub) rs2.sub
    have ndD := List.nodup_cons.mp nd2
    by_cases hlt : i < items.length
    · right
      have ei : items[i]? = some items[i] := List.getElem?_eq_getElem hlt
      obtain ⟨go, yl⟩ := hgo i _ ei
      refine ⟨go, Cst (i + 1), fun H' hN => ⟨m - 1, by omega, by omega, hN⟩, fun x H3 hy => ?_⟩
      obtain ⟨G3, e3, d3⟩ := yl x H3 hy
      rw [List.drop_eq_getElem_cons hlt] at w2
      have rs3 := rs2.ext e3
      obtain ⟨f3, rw3, sw3⟩ := rs3.wipeF vs
      rw [wipeD_wipe] at rw3
      refine ⟨G3, wipeD env2 vs, f3, pv, items[i], rw3, d3, ?_⟩
      have w3 : PostO X.K X.mg W σ G H fp pv (kE X.K X.mg Q H fp) ((match g items[i] (wipeD env2 vs) with | none => Out.bad | some e1 => (noO (elt e1)).bind fun y e2 => (compLE g elt vs (items.drop (i + 1)) (wipeD e2 vs)).bind fun ys e3 => .ok (y :: ys) e3).bind fun ys e => .ok (.own (accS ++ ys)) e) := w2
      cases z : g items[i] (wipeD env2 vs) with
      | none => rw [z] at w3; exact w3.elim
      | some e4 =>
        rw [z] at w3
        dsimp only at w3
        intro σ4 fp4 h4 ho rs4
        refine ⟨(wipe_out ho vs hts).trans (wipe_wipe σ vs), G3, e4, fp4, pv, rs4, ?_⟩
        intro G5 H5 e5
        rw [if_pos rfl]
        refine ⟨G5, e4, fp4, pv, rs4.ext e5, noO_ok ?_⟩
        cases zo : elt e4 with
        | err c => rw [zo] at w3; exact w3.elim
        | bad => rw [zo] at w3; exact w3.elim
        | ok y e6 =>
          rw [zo] at w3
          intro G6 H6 fp6 st6 rs6 v r6 ow6 nd6 fr6
          have st5 : Stp G2 H2 fp2 G5 H5 fp4 := (Stp.of_ext (fp := fp2) (e3.trans e5)).sub fun j b m => by
            obtain ⟨k, q⟩ := h4 j b m
            exact .inr ⟨k, sw3 k b q⟩
          have st26 := st5.trans st6
          have hD6 : H6 D = some (.lst accV) := st26.fr D _ hD2 nf2
          have inF : ∀ j b, b ∈ fp6 j → H2 b = none ∨ ∃ k, b ∈ fp2 k := st26.f
          have nD6 : ∀ j, D ∉ fp6 j := fun j m => by
            rcases inF j D m with q | ⟨k, q⟩
            · rw [hD2] at q; cases q
            · exact nf2 k q
          have gD6 : G6 D = none := by
            cases q : G6 D with
            | none => rfl
            | some o =>
              rcases st26.n D o q with k | k | ⟨j, k⟩
              · rw [hG2] at k; cases k
              · rw [hD2] at k; cases k
              · exact absurd k (nf2 j)
          have keepR : ∀ b ∈ r, H6 b = H2 b := fun b m => by
            obtain ⟨o, ho⟩ := ow2.there b m
            rw [ho]; exact st26.fr b o ho (fr2 b m).2.1
          have rG6 : ∀ b ∈ r, G6 b = none := fun b m => by
            cases q : G6 b with
            | none => rfl
            | some o =>
              obtain ⟨u, hu⟩ := ow2.there b m
              rcases st26.n b o q with k | k | ⟨j, k⟩
              · rw [(fr2 b m).1] at k; cases k
              · rw [hu] at k; cases k
              · exact absurd k ((fr2 b m).2.1 j)
          have rF6 : ∀ b ∈ r, ∀ j, b ∉ fp6 j := fun b m j m2 => by
            rcases inF j b m2 with q | ⟨k, q⟩
            · obtain ⟨u, hu⟩ := ow2.there b m
              rw [hu] at q; cases q
            · exact (fr2 b m).2.1 k q
          have r6ne : ∀ b ∈ r6, b ≠ D ∧ b ∉ r := fun b m => by
            have h5 : H5 b = none ∨ ∃ j, b ∈ fp4 j := (fr6 b m).2.2
            have h2 : H2 b = none ∨ ∃ k, b ∈ fp2 k := by
              rcases h5 with q | ⟨j, q⟩
              · exact .inl (none_back (e3.trans e5).h q)
              · exact st5.f j b q
            refine ⟨fun q => ?_, fun q => ?_⟩
            · subst q
              rcases h2 with k | ⟨k, k'⟩
              · rw [hD2] at k; cases k
              · exact nf2 k k'
            · rcases h2 with k | ⟨k, k'⟩
              · obtain ⟨u, hu⟩ := ow2.there b q
                rw [hu] at k; cases k
              · exact (fr2 b q).2.1 k k'
          obtain ⟨f7, rw7, sw7⟩ := rs6.wipeF vs
          have rs7 := (rw7.unwipe (σ := σ) ((wipe_out ho vs hts).trans (wipe_wipe σ vs))).dvs
          have stg : Stp G H fp G6 H6 f7 := (st2.trans st26).sub fun j b m => (st2.trans st26).f j b (sw7 j b m)
          have nf7 : ∀ j, D ∉ f7 j := fun j m => nD6 j (sw7 j D m)
          have hH6D : H D = none := hD0
          have up : ∀ b, b ≠ D → (upd H6 D (.lst (accV ++ [v]))) b = H6 b := fun b hb => upd_ne hb
          refine ⟨accV, hD6, by rw [sl_eq]; omega, G6, e6, f7, accV ++ [v], accS ++ [y], r ++ (r6 ++ []), ?_, ?_, gg2.trans st26.g, upd_same, gD6, nf7, ?_, ?_, ?_, ?_, ?_⟩
          · refine ⟨rs7.len, fun j s q => ?_, rs7.nil, fun b o q => ?_, rs7.out, rs7.nd, rs7.dj⟩
            · have rr := rs7.rel j s q
              have ks : ∀ b ∈ f7 j, (upd H6 D (.lst (accV ++ [v]))) b = H6 b := fun b mb => up b fun z => nf7 j (by rw [← z]; exact mb)
              cases s with
              | no => exact rr
              | va s => obtain ⟨u, q1, q2⟩ := rr; exact ⟨u, q1, q2.mono (Same.refl _) ks⟩
              | rf s => obtain ⟨q1, q2⟩ := rr; exact ⟨q1, q2.mono (Same.refl _) ks⟩
              | vw s =>
                obtain ⟨u, _, hu⟩ := dv_get q
                cases u <;> cases hu
            · rw [up b fun z => by rw [z, gD6] at q; cases q]
              exact rs7.sub b o q
          · refine ⟨stg.g, fun b o hb nb => ?_, stg.n, stg.f, fun b hb => ?_, fun b C dx ws hb => ?_⟩
            · rw [up b fun z => by rw [z, hH6D] at hb; cases hb]
              exact stg.fr b o hb nb
            · by_cases z : b = D
              · rw [z, upd_same] at hb; cases hb
              · rw [up b z] at hb; exact stg.trk b hb
            · obtain ⟨ws', h1, h2⟩ := stg.fld b C dx ws hb
              exact ⟨ws', by rw [up b fun z => by rw [z, hH6D] at hb; cases hb]; exact h1, h2⟩
          · refine (ow2.mono st26.g fun b mb => ?_).append (.cons (ow6.mono (Same.refl _) fun b mb => up b (r6ne b mb).1) .nil)
            rw [up b fun z => ndD.1 (by rw [← z]; exact mb)]
            exact keepR b mb
          · rw [List.append_nil]
            refine List.nodup_cons.mpr ⟨fun mb => ?_, List.nodup_append.mpr ⟨ndD.2, nd6, fun b m1 b' m2 q => ?_⟩⟩
            · rcases List.mem_append.mp mb with mb | mb
              · exact ndD.1 mb
              · exact (r6ne D mb).1 rfl
            · subst q
              exact (r6ne b m2).2 m1
          · rw [List.append_nil]
            intro b mb
            rcases List.mem_append.mp mb with mb | mb
            · exact ⟨rG6 b mb, fun j q => rF6 b mb j (sw7 j b q), (fr2 b mb).2.2⟩
            · refine ⟨(fr6 b mb).1, fun j q => (fr6 b mb).2.1 j (sw7 j b q), ?_⟩
              rcases (fr6 b mb).2.2 with q | ⟨j, q⟩
              · exact .inl (st2.trk b (none_back (e3.trans e5).h q))
              · rcases st5.f j b q with k | ⟨k, k'⟩
                · exact .inl (st2.trk b k)
                · exact st2.f k b k'
          · have w4 : PostO X.K X.mg W σ G H fp pv (kE X.K X.mg Q H fp) (((compLE g elt vs (items.drop (i + 1)) (wipeD e6 vs)).bind fun ys e3 => .ok (y :: ys) e3).bind fun ys e => .ok (.own (accS ++ ys)) e) := w3
            cases zc : compLE g elt vs (items.drop (i + 1)) (wipeD e6 vs) with
            | ok ys e7 =>
              rw [zc] at w4
              have w5 : PostO X.K X.mg W σ G H fp pv (kE X.K X.mg Q H fp) (Out.ok (.own (accS ++ (y :: ys))) e7) := w4
              have e8 : accS ++ (y :: ys) = accS ++ [y] ++ ys := by rw [List.append_assoc]; rfl
              rw [e8] at w5
              exact w5
            | err c => rw [zc] at w4; exact w4
            | bad => rw [zc] at w4; exact w4
          · rw [List.length_append]
            show accV.length + 1 ≤ i + 1
            omega
    · left
      have ei : items.drop i = [] := List.drop_eq_nil_iff.mpr (by omega)
      rw [ei] at w2
      have w3 : PostO X.K X.mg W σ G H fp pv (kE X.K X.mg Q H fp) (Out.ok (.own (accS ++ [])) (wipeD env2 vs)) := w2
      rw [List.append_nil] at w3
      refine ⟨hstop i (by omega), w3 G2 H2 fp2 st2 rs2 (.ref D) (D :: r) (.own hD2 ow2) nd2 fun a m => ?_⟩
      rcases List.mem_cons.mp m with rfl | m
      · exact ⟨hG2, nf2, .inl hD0⟩
      · exact fr2 a m
  · rw [cIf_neg hsz] at w; exact w.elim
theorem imp_frE {f : FE} {σ : L2.St} {H : Hp} {Q : VK} (h : tE X.K X.mg W (frE f) σ H Q) : tE X.K X.mg W f σ H Q := by
  obtain ⟨G, env, fp, pv, rs, w⟩ := h
  refine ⟨G, env, fp, pv, rs, PostO.impS (PostO.seq0 w) fun s e' G1 H1 fp1 st rs1 ⟨_, _, w1⟩ v r ow nd fr => ?_⟩
  cases z : s.frz? with
  | none => rw [z] at w1; exact w1.elim
  | some x =>
    rw [z] at w1
    have g : Same G1 (gu G1 H1 r) := gu_same rs1.sub
    refine w1 (gu G1 H1 r) H1 fp1 ⟨st.g.trans g, st.fr, fun a o q => ?_, st.f, st.trk, st.fld⟩ (rs1.grow fun a m => (fr a m).2.1) v [] (.f (ow.frozenF g (fun a m o e => by rw [gu_in m]; exact e) z)) .nil fun a m => by cases m
    by_cases m : a ∈ r
    · rcases (fr a m).2.2 with k | ⟨j, k⟩
      · exact .inr (.inl k)
      · exact .inr (.inr ⟨j, k⟩)
    · rw [gu_out m] at q
      exact st.n a o q
theorem vs_setLcEF {i : Nat} {y : Str} {py spos : Pos} {it : IT} {g : Tgt} {ts : List Nat} {elt : FE} {own : List (Str × Nat)} {el : Expr} {scope : Scope} (hc : X.calm = true) (hN : X.N.Nodup) (hy : X.N[i]? = some y) (hyl : X.env.scope.names.lookup y = some .local)
    (hsw : swapsWith (.ListComp el [⟨tg, e, [], 0⟩] scope pos) (some (.Name y py)) spos.line X.env = pure true) (hi : VIF X W tg e it) (ok : BlkOk X.N X.env.scope scope own)
    (hg : ∀ (s : Shared) (H : Hp) (C : Addr) (cl : List (Str × Addr)) (fp : List Addr), VG (X.blk s H scope (compEnvC scope cl C X.env) fp) ts tg g)
    (he : ∀ (s : Shared) (H : Hp) (C : Addr) (cl : List (Str × Addr)) (fp : List Addr), VE (X.blk s H scope (compEnvC scope cl C X.env) fp) (fun _ _ _ _ => False) el elt)
    (hts : ∀ j ∈ ts, j ∈ own.map (·.2)) (hs : ∀ x, foldedSetIterable e X.env x = pure x := by intro _; rfl) : VS X W (.Assign [.Name y py] (.ListComp el [⟨tg, e, [], 0⟩] scope pos) spos) (vSetE i (frE (vCompE it g elt (own.map (·.2))))) :=
  ps_imp (ps_setLc hc hN hy hyl hsw hi ok hg (fun _ _ _ _ _ => vts_nil) he hs) fun D σ H h => imp_compE hts (imp_frE (imp_setE h))

def dg3 (k1 k2 k3 : Str) (x1 x2 x3 y : FV) : PyData → Res FV
  | .str s => .ok (if s = k1 then x1 else if s = k2 then x2 else if s = k3 then x3 else y)
  | _ => .bad
def vDG3 (k1 k2 k3 : Str) (f1 f2 f3 : FP) (g : FD) (d : FP) : FP := fun env => (f1 env).bind fun x1 => (f2 env).bind fun x2 => (f3 env).bind fun x3 => (g env).bind fun s => (d env).bind fun y => dg3 k1 k2 k3 x1 x2 x3 y s
theorem getK3 {k1 k2 k3 s : Str} {v1 v2 v3 : V} (n12 : k1 ≠ k2) (n13 : k1 ≠ k3) (n23 : k2 ≠ k3) : valV (mergeK [] [((.inr k1 : Key), v1), (.inr k2, v2), (.inr k3, v3)]) (.inr s : Key) = if s = k1 then some v1 else if s = k2 then some v2 else if s = k3 then some v3 else none := by
  have e : mergeK [] [((.inr k1 : Key), v1), (.inr k2, v2), (.inr k3, v3)] = [((.inr k1 : Key), v1), (.inr k2, v2), (.inr k3, v3)] := by
    simp [mergeK, putK, n12, n13, n23]
  rw [e]
  by_cases h1 : s = k1
  · rw [if_pos h1, valV_pos (by rw [h1])]
  · rw [if_neg h1, valV_neg (fun q => h1 (Sum.inr.inj q).symm)]
    by_cases h2 : s = k2
    · rw [if_pos h2, valV_pos (by rw [h2])]
    · rw [if_neg h2, valV_neg (fun q => h2 (Sum.inr.inj q).symm)]
      by_cases h3 : s = k3
      · rw [if_pos h3, valV_pos (by rw [h3])]
      · rw [if_neg h3, valV_neg (fun q => h3 (Sum.inr.inj q).symm)]
        rfl
theorem vp_dg3 {k1 k2 k3 : Str} {f1 f2 f3 d : FP} {g : FD} {e1 e2 e3 f : Expr} {j1 j2 j3 : Nat} {p1 p2 p3 dpos : Pos} (hu : X.A.units + 1 < cLine) (h1 : VP X W e1 f1) (h2 : VP X W e2 f2) (h3 : VP X W e3 f3) (he : VD X W e g) (hf : VP X W f d) (n12 : k1 ≠ k2) (n13 : k1 ≠ k3) (n23 : k2 ≠ k3)
    (m : M2 X (.Dict [some (.Constant (.str k1) j1 p1), some (.Constant (.str k2) j2 p2), some (.Constant (.str k3) j3 p3)] [e1, e2, e3] dpos) "get" apos e f cpos) :
    VP X W (.Call (.Attribute (.Dict [some (.Constant (.str k1) j1 p1), some (.Constant (.str k2) j2 p2), some (.Constant (.str k3) j3 p3)] [e1, e2, e3] dpos) "get" apos) [e, f] [] cpos) (vDG3 k1 k2 k3 f1 f2 f3 g d) :=
  pe_imp (pe_dget2 hu (pe_disp (pps_cons pe_str h1 (pps_cons pe_str h2 (pps_cons pe_str h3 pps_nil))) rfl rfl (by simp) (by simp)) he hf m) fun σ H Q ⟨G, env, fp, pv, rs, w⟩ p hp => by
    have e0 : Ext G H G (upd H p (.dK [])) := Ext.newO rs.sub hp
    refine ⟨G, env, fp, pv, rs.ext e0, PostR.imp (PostR.seq (k := fun x1 => PostR X.mg W σ H _ ((f2 env).bind _)) w fun y w => w) e0.h fun x1 w v1 G1 H1 ex1 q1 => ?_⟩
    have a1 := e0.trans ex1
    refine ⟨G1, env, fp, pv, rs.ext a1, PostR.imp (PostR.seq (k := fun x2 => PostR X.mg W σ H _ ((f3 env).bind _)) w fun y w => w) a1.h fun x2 w v2 G2 H2 ex2 q2 => ?_⟩
    have a2 := a1.trans ex2
    refine ⟨G2, env, fp, pv, rs.ext a2, PostR.imp (PostR.seq (k := fun x3 => PostR X.mg W σ H _ ((g env).bind _)) w fun y w => w) a2.h fun x3 w v3 G3 H3 ex3 q3 => ?_⟩
    have a3 := a2.trans ex3
    have hp3 : H3 p = some (.dK []) := ex3.h _ _ (ex2.h _ _ (ex1.h _ _ upd_same))
    have gp3 : G3 p = none := by
      cases q : G3 p with
      | none => rfl
      | some o =>
        rcases ((ex1.trans ex2).trans ex3).n p o q with k | k
        · have := rs.sub _ _ k
          rw [hp] at this; cases this
        · rw [upd_same] at k; cases k
    refine ⟨hp3, [((.inr k1 : Key), v1), (.inr k2, v2), (.inr k3, v3)], rfl, by simp, p, rfl, ?_⟩
    let kvs := mergeK [] [((.inr k1 : Key), v1), (.inr k2, v2), (.inr k3, v3)]
    have a4 : Ext G H G3 (upd H3 p (.dK kvs)) := ⟨a3.g, fun b o h => by
      rw [upd_ne (ne_of_none h hp)]; exact a3.h b o h, fun b o h => by
      rw [upd_ne (fun q => by rw [q, gp3] at h; cases h)]; exact a3.s b o h, fun b o h => a3.n b o h⟩
    refine ⟨.inl ⟨kvs, .inl upd_same⟩, G3, env, fp, pv, rs.ext a4, PostR.imp (PostR.seq (k := fun s => PostR X.mg W σ H _ ((d env).bind _)) w fun y w => w) a4.h fun s w kv G4 H4 ex4 q4 => ?_⟩
    have a5 := a4.trans ex4
    refine ⟨G4, env, fp, pv, rs.ext a5, PostR.imp (PostR.seq (k := fun y => PostR X.mg W σ H _ (dg3 k1 k2 k3 x1 x2 x3 y s)) w fun y w => w) a5.h fun y w dv' G5 H5 ex5 q5 => ?_⟩
    have a6 := a5.trans ex5
    have hp5 : H5 p = some (.dK kvs) := ex5.h _ _ (ex4.h _ _ upd_same)
    cases s with
    | str s =>
      have ek := q4.str
      subst ek
      refine ⟨valV kvs (.inr s), .inl ⟨kvs, .inr s, .inl hp5, rfl, rfl⟩, ?_⟩
      have w' : ∀ v G' H', Ext G H G' H' → Fq X.K X.mg G' v (if s = k1 then x1 else if s = k2 then x2 else if s = k3 then x3 else y) → Q v H' := w
      have g13 : Same G1 G5 := (((ex2.g.trans ex3.g).trans ex4.g).trans ex5.g)
      have gv : valV kvs (.inr s : Key) = if s = k1 then some v1 else if s = k2 then some v2 else if s = k3 then some v3 else none := getK3 n12 n13 n23
      rw [gv]
      refine w' _ G5 H5 a6 ?_
      by_cases c1 : s = k1
      · rw [if_pos c1, if_pos c1]; exact q1.mono g13
      · rw [if_neg c1, if_neg c1]
        by_cases c2 : s = k2
        · rw [if_pos c2, if_pos c2]; exact q2.mono ((ex3.g.trans ex4.g).trans ex5.g)
        · rw [if_neg c2, if_neg c2]
          by_cases c3 : s = k3
          · rw [if_pos c3, if_pos c3]; exact q3.mono (ex4.g.trans ex5.g)
          · rw [if_neg c3, if_neg c3]; exact q5
    | none => exact w.elim
    | bool _ => exact w.elim
    | int _ => exact w.elim
    | list _ => exact w.elim
    | tuple _ => exact w.elim
    | dict _ => exact w.elim
end
end VL

set_option Elab.async false
set_option linter.all false
set_option maxRecDepth 100000
set_option maxHeartbeats 4000000
namespace VL
open PySem PySem.Spec PyProof.Rows L2
section
variable {X : Cx} {W : WX} {a b c e o : Expr} {es : List Expr} {pos apos cpos : Pos} {st : Stmt} {sts : List Stmt}

def datasA : List AV → Option (List PyData)
  | [] => some []
  | .fz (.d p) :: r => (datasA r).map (p :: ·)
  | _ => none
theorem datasA_ok {K : PySem.W.Frag} {mg : Str → Option Value} {G : Hp} {σ : L2.St} : ∀ {vs : List V} {xs : List AV} {ds : List PyData}, AVs K mg G σ vs xs → datasA xs = some ds → Dqs K G vs ds
  | _, _, _, .nil, q => by cases q; exact .nil
  | _, _, ds, @AVs.cons _ _ _ _ v vs x xs h t, q => by
    cases x with
    | fz y =>
      cases y with
      | d p =>
        have q' : (datasA xs).map (p :: ·) = some ds := q
        cases z : datasA xs with
        | none => rw [z] at q'; cases q'
        | some r =>
          rw [z] at q'
          cases q'
          have h' : Fq K mg G v (.d p) := h
          cases h' with
          | d hd => exact .cons hd (datasA_ok t z)
      | _ => cases q
    | _ => cases q
noncomputable def tupX (xs : List AV) (e : Env) : Out SV := match datasA xs with
  | some ds => cIf (ds.length ≤ 16777216) (.ok (.f (.d (.tuple ds))) e) .bad
  | none => .bad
noncomputable def vTupX (fs : Env → Out (List AV)) : FE := fun env => (fs env).bind tupX
theorem ve_tupX {n : Nat} {fs : Env → Out (List AV)} {x1} (h : VAX X W n es fs) : VE X W (.Tuple es x1 pos) (vTupX fs) :=
  pe_imp (pe_tup h) fun σ H Q ⟨G, env, fp, pv, rs, w⟩ => ⟨G, env, fp, pv, rs, PostO.impS (PostO.seq0 w) fun xs e1 G1 H1 fp1 st1 rs1 ⟨_, _, w1⟩ vs av hl => by
    unfold tupX at w1
    cases z : datasA xs with
    | none => rw [z] at w1; exact w1.elim
    | some ds =>
      rw [z] at w1
      dsimp only at w1
      have dq := datasA_ok av z
      by_cases hd : ds.length ≤ 16777216
      · rw [cIf_pos hd] at w1
        refine ⟨by rw [dq.length, sl_eq]; exact hd, new_tup (mg := X.mg) rs1.sub dq fun v G2 H2 ex q => ?_⟩
        exact w1 G2 H2 fp1 (st1.trans (Stp.of_ext ex)) (rs1.ext ex) v [] (.f q) .nil fun a m => by cases m
      · rw [cIf_neg hd] at w1; exact w1.elim⟩
def ixE1 (k : Int) (s : SV) (e : Env) : Out SV := match s with
  | .f (.d d) => oR (ixP d (.int k)) fun x => .ok (.f x) e
  | _ => .bad
def vIxE (f : FE) (k : Int) : FE := fun env => (f env).bind (ixE1 k)
theorem ve_ixE {f : FE} {k : Int} {j : Nat} {p : Pos} (ha : VE X W a f) (hs : PlainIx (.Constant (.int k) j p)) : VE X W (.Subscript a (.Constant (.int k) j p) pos) (vIxE f k) :=
  pe_imp (pe_ix (IxR.or ix_list ix_tup) ha (pe_int (i := k)) hs) fun σ H Q ⟨G, env, fp, pv, rs, w⟩ => ⟨G, env, fp, pv, rs, PostO.impS (PostO.seq0 w) fun s e1 G1 H1 fp1 st1 rs1 ⟨_, _, w1⟩ v r ow nd fr => by
    unfold ixE1 at w1
    split at w1
    · rename_i d0
      cases ow with
      | f h =>
        cases h with
        | d dq =>
          rename_i d
          have hx : Dr X.K G1 H1 v d := .fz dq
          unfold ixP at w1
          split at w1
          · rename_i ds i he
            cases he
            cases z : atI ds k with
            | none => rw [z] at w1; exact w1.elim
            | some d' =>
              rw [z] at w1
              obtain ⟨p, vs, e1, h1, t1⟩ := hx.lst rs1.sub
              obtain ⟨v', hv, dv⟩ := t1.atI z
              exact .inl ⟨p, vs, k, v', e1, rfl, SqL.of h1, hv, w1 G1 H1 fp1 st1 rs1 v' [] (.f (.d dv)) .nil fun a m => by cases m⟩
          · rename_i ds i he
            cases he
            cases z : atI ds k with
            | none => rw [z] at w1; exact w1.elim
            | some d' =>
              rw [z] at w1
              obtain ⟨p, vs, e1, h1, t1⟩ := hx.tup
              obtain ⟨v', hv, dv⟩ := t1.atI z
              exact .inr ⟨p, vs, k, v', e1, rfl, sqt_mono rs1.sub h1, hv, w1 G1 H1 fp1 st1 rs1 v' [] (.f (.d dv)) .nil fun a m => by cases m⟩
          · exact w1.elim
    · exact w1.elim⟩
end
end VL

set_option Elab.async false
set_option linter.all false
set_option maxRecDepth 100000
set_option maxHeartbeats 4000000
namespace VL
open PySem PySem.Spec PyProof.Rows L2

section
variable {X : Cx} {x y n : Str} {cx cy : Value} {i : Nat} {body sx sy : List Stmt} {bx bY : Stmt} {px py pos qx qy : Pos} {tb : WX → TS} {tx ty : Addr → Value → Option Addr → TS} {Wout : WX}
end
section
variable {X : Cx} {W : WX} {a b c e o : Expr} {es : List Expr} {pos apos cpos : Pos} {st : Stmt} {sts : List Stmt}
end
end VL

set_option Elab.async false
set_option linter.all false
set_option maxRecDepth 100000
set_option maxHeartbeats 4000000
namespace VL
open PySem PySem.Spec PyProof.Rows L2

section
variable {X : Cx} {W : WX}
end
end VL

set_option Elab.async false
set_option linter.all false
set_option maxRecDepth 100000
set_option maxHeartbeats 4000000
namespace VL
open PySem PySem.Spec PyProof.Rows L2

section
variable {X : Cx} {W : WX} {a b c e o : Expr} {es : List Expr} {pos : Pos}
def vTmpT (i : Nat) (ps : List Pst) (f : FT) : FT := fun env => match frzE env i ps with
  | some e => f e
  | none => .bad
theorem vt_tmp (i : Nat) (ps : List Pst) {f : FT} (h : VT X W e f) : VT X W e (vTmpT i ps f) := pt_imp h fun σ H Q ⟨G, env, fp, pv, rs, w⟩ => by
  unfold vTmpT at w
  cases z : frzE env i ps with
  | none => rw [z] at w; exact w.elim
  | some e1 =>
    rw [z] at w
    obtain ⟨r0, fp', rs', hr, hs⟩ := rs.frz z
    exact ⟨_, e1, fp', pv, rs', PostR.imp w (Same.refl _) fun b w G1 H1 ex => w G H1 ⟨Same.refl _, ex.h, rs.sub.trans ex.h, fun _ _ e => .inl e⟩⟩
noncomputable def vRetT3 (f : FO) (i j : Nat) : ST := fun e => ofR (f e) e fun s => match e[i]?, e[j]? with
  | some (.va a), some (.va b) => if i ≠ j then .rt (.otup [s, a, b]) ((e.set i .no).set j .no) else .bad
  | _, _ => .bad
theorem vs_retT3 {f : FO} {i j : Nat} {x y : Expr} {kk : Nat} {p : Pos} (h0 : VO X W a f) (hx : PE X x (tVar i)) (hy : PE X y (tVar j)) (hs0 : starEach [a, x, y] X.env = (false, eval a X.env) :: starEach [x, y] X.env := by rfl) (hs1 : starEach [x, y] X.env = (false, eval x X.env) :: starEach [y] X.env := by rfl)
    (hs2 : starEach [y] X.env = (false, eval y X.env) :: starEach [] X.env := by rfl) : VS X W (.Return (some (.Tuple [a, x, y] kk p)) pos) (vRetT3 f i j) :=
  ps_imp (ps_ret (pe_tup (pa_cons h0 (pa_cons hx (pa_cons hy pa_nil hs2) hs1) hs0))) fun D σ H ⟨G, env, fp, pv, rs, w⟩ => ⟨G, env, fp, pv, rs, Post.ofR rs w fun s w v G1 H1 r e1 ow nd fr => by
    cases zi : env[i]? with
    | none => rw [zi] at w; exact w.elim
    | some u =>
    cases zj : env[j]? with
    | none => rw [zi, zj] at w; cases u <;> exact w.elim
    | some u2 =>
    rw [zi, zj] at w
    cases u with
    | no => exact w.elim
    | rf _ => exact w.elim
    | vw _ => exact w.elim
    | va sa =>
    cases u2 with
    | no => exact w.elim
    | rf _ => exact w.elim
    | vw _ => exact w.elim
    | va sb =>
    dsimp only at w
    by_cases hij : i ≠ j
    · rw [if_pos hij] at w
      have rs1 := rs.ext e1
      obtain ⟨vi, hvi, owi⟩ := rs1.rel i _ zi
      obtain ⟨vj, hvj, owj⟩ := rs1.rel j _ zj
      refine ⟨vi, hvi, vj, hvj, by rw [sl_eq]; show 3 ≤ 16777216; omega, fun q hq => ?_⟩
      have e2 : Ext G1 H1 G1 (upd H1 q (.tup [v, vi, vj])) := Ext.newO rs1.sub hq
      have rs2 := rs1.ext e2
      have rs3 := (rs2.drop i).drop j
      have nq : ∀ k, q ∉ fp k := fun k => rs1.notin hq k
      have nr : q ∉ r := fun m => by
        obtain ⟨ob, h⟩ := ow.there q m
        rw [hq] at h; cases h
      have dr : ∀ k a, a ∈ r → a ∉ fp k := fun k a m => rs.notin (fr a m).1 k
      refine w (.ref q) G1 _ (upd H1 q (.tup [v, vi, vj])) _ (q :: (r ++ (fp i ++ (fp j ++ [])))) ?_ rs3 ?_ ?_ ?_
      · refine (Stp.of_ext (fp := fp) (e1.trans e2)).sub fun k b m => ?_
        by_cases h1 : k = j
        · rw [if_pos h1] at m; cases m
        · rw [if_neg h1] at m
          by_cases h2 : k = i
          · rw [if_pos h2] at m; cases m
          · rw [if_neg h2] at m; exact .inr ⟨k, m⟩
      · exact .otup upd_same (.cons (ow.same (Same.refl _) e2.h) (.cons (owi.same (Same.refl _) e2.h) (.cons (owj.same (Same.refl _) e2.h) .nil)))
      · rw [List.append_nil]
        refine List.nodup_cons.mpr ⟨fun m => ?_, List.nodup_append.mpr ⟨nd, List.nodup_append.mpr ⟨rs.nd i, rs.nd j, fun a m1 b m2 q => ?_⟩, fun a m1 b m2 q => ?_⟩⟩
        · rcases List.mem_append.mp m with m | m
          · exact nr m
          · rcases List.mem_append.mp m with m | m
            · exact nq _ m
            · exact nq _ m
        · subst q
          exact hij (rs.dj i j a m1 m2)
        · subst q
          rcases List.mem_append.mp m2 with m | m
          · exact dr _ _ m1 m
          · exact dr _ _ m1 m
      · intro b m
        rw [List.append_nil] at m
        rcases List.mem_cons.mp m with rfl | m
        · refine ⟨none_back e1.s hq, fun k m => ?_, .inl (none_back e1.h hq)⟩
          by_cases h1 : k = j
          · rw [if_pos h1] at m; cases m
          · rw [if_neg h1] at m
            by_cases h2 : k = i
            · rw [if_pos h2] at m; cases m
            · rw [if_neg h2] at m; exact nq k m
        · rcases List.mem_append.mp m with m | m
          · refine ⟨(fr b m).2, fun k m2 => ?_, .inl (fr b m).1⟩
            by_cases h1 : k = j
            · rw [if_pos h1] at m2; cases m2
            · rw [if_neg h1] at m2
              by_cases h2 : k = i
              · rw [if_pos h2] at m2; cases m2
              · rw [if_neg h2] at m2; exact dr k b m m2
          · rcases List.mem_append.mp m with m | m
            · refine ⟨rs1.out i b m, fun k m2 => ?_, .inr ⟨i, m⟩⟩
              by_cases h1 : k = j
              · rw [if_pos h1] at m2; cases m2
              · rw [if_neg h1] at m2
                by_cases h2 : k = i
                · rw [if_pos h2] at m2; cases m2
                · rw [if_neg h2] at m2; exact h2 (rs.dj k i b m2 m)
            · refine ⟨rs1.out j b m, fun k m2 => ?_, .inr ⟨j, m⟩⟩
              by_cases h1 : k = j
              · rw [if_pos h1] at m2; cases m2
              · rw [if_neg h1] at m2
                by_cases h2 : k = i
                · rw [if_pos h2] at m2; cases m2
                · rw [if_neg h2] at m2; exact h1 (rs.dj k j b m2 m)
    · rw [if_neg hij] at w; exact w.elim⟩
end
end VL

set_option Elab.async false
set_option linter.all false
set_option maxRecDepth 100000
set_option maxHeartbeats 4000000
namespace VL
open PySem PySem.Spec PyProof.Rows L2

noncomputable def B_Table___init__ : ST := (vSeq (vIfS (vOrT (toT (vCmp .notin (vVarD 1) (toD (vC (.tuple (([5, 7, 11, 13, 17, 19, 23, 29, 31] : List Int).map .int)))))) (vOrT (vNotT (toT (vChain .le .le (toD (vC (.int 3))) (vVarD 2) (toD (vC (.int 7)))))) (toT (vCmp .ge (vVarD 2) (vVarD 1))))) (vRaise "BadTable") vSkip)
  (vSeq (vIfS (vOrT (vNotT (toT (vChain .le .le (toD (vC (.int 1))) (vVarD 3) (toD (vC (.int 2)))))) (toT (vCmp .ge (frD (v2 mulV (toD (vC (.int 2))) (vVarD 3))) (vVarD 2)))) (vRaise "BadTable") vSkip)
  (vSeq (vSetF "Table" 0 "prime" (unO (vVar 1)))
  (vSeq (vSetF "Table" 0 "hands" (unO (vVar 2)))
  (vSetF "Table" 0 "few" (unO (vVar 3)))))))
noncomputable def S_Table___init__ : Fn := mkFn 0 B_Table___init__

noncomputable def B__law_cell_at : ST := (vSeq (vIfS (toT (vCmp .lt (vVarD 1) (toD (vLenS (vVar 0))))) (vRetP (ixS (vVar 0) (vVarD 1))) vSkip)
  (vRetP (vC (.int 0))))
noncomputable def S__law_cell_at : Fn := mkFn 0 B__law_cell_at

noncomputable def B__law_whole : ST := (vRetP (vAnd (v1 (fun y => iB (isI .int y)) (vVarD 0)) (vNot (v1 (fun y => iB (isI .bool y)) (vVarD 0)))))
noncomputable def S__law_whole : Fn := mkFn 0 B__law_whole

noncomputable def B_back : ST := (vSeq (vIfS (toT (vCmp .eq (vVarD 1) (toD (vC (.int 0))))) (vRaise "Nought") vSkip)
  (vSeq (vSet 2 (vC (.int 1)))
  (vSeq (vFor (v1 rng1 (toD (v2 subI (toD (vFld "Table" "prime" (vVar 0))) (toD (vC (.int 2)))))) (gN 3)
  (vSet 2 (v2 modI (frD (v2 mulV (vVarD 2) (vVarD 1))) (toD (vFld "Table" "prime" (vVar 0))))))
  (vRetP (vVar 2)))))
noncomputable def S_back : Fn := mkFn 2 B_back

noncomputable def B__law_table_by : ST := (vSeq (vSet 1 (v2 ixP (frD (vLst (vCons (toD (vC (.int 5))) (vCons (toD (vC (.int 7))) (vCons (toD (vC (.int 11))) (vCons (toD (vC (.int 13))) (vCons (toD (vC (.int 17))) (vCons (toD (vC (.int 19))) (vCons (toD (vC (.int 23))) (vCons (toD (vC (.int 29))) (vCons (toD (vC (.int 31))) vNil))))))))))) (toD (v2 modI (vVarD 0) (toD (vC (.int 9)))))))
  (vSeq (vSet 2 (frO (v2 addV (toD (vC (.int 3))) (toD (v2 modI (toD (v2 divI (vVarD 0) (toD (vC (.int 9))))) (toD (v2 subI (toD (v2 minI (toD (vC (.int 7))) (toD (v2 subI (vVarD 1) (toD (vC (.int 1))))))) (toD (vC (.int 2))))))))))
  (vSeq (vSet 3 (vC (.int 1)))
  (vSeq (vIfS (vAndT (toT (vCmp .gt (vVarD 2) (toD (vC (.int 4))))) (toT (vCmp .eq (toD (v2 modI (toD (v2 divI (vVarD 0) (toD (vC (.int 45))))) (toD (vC (.int 2))))) (toD (vC (.int 1)))))) (vSet 3 (vC (.int 2))) vSkip)
  (vRet (vMake "Table" S_Table___init__ (aC (vVar 1) (aC (vVar 2) (aC (vVar 3) aN)))))))))
noncomputable def S__law_table_by : Fn := mkFn 3 B__law_table_by

noncomputable def B_worth : ST := (vSeq (vSet 3 (vC (.int 0)))
  (vSeq (vFor (vItRev (toD (vVar 1))) (gN 4)
  (vSet 3 (v2 modI (frD (v2 addV (frD (v2 mulV (vVarD 3) (vVarD 2))) (vVarD 4))) (toD (vFld "Table" "prime" (vVar 0))))))
  (vRetP (vVar 3))))
noncomputable def S_worth : Fn := mkFn 2 B_worth

noncomputable def B__law_mix : ST := (vRetP (v2 modI (toD (v2 divI (toD (v2 modI (frD (v2 mulV (frD (v2 addV (toD (v2 modI (vVarD 0) (toD (vC (.int 2147483647))))) (toD (vC (.int 12345))))) (frD (v2 addV (toD (vC (.int 48271))) (frD (v2 mulV (toD (vC (.int 6))) (vVarD 1))))))) (toD (vC (.int 1000000007))))) (toD (vC (.int 7))))) (vVarD 2)))
noncomputable def S__law_mix : Fn := mkFn 0 B__law_mix

noncomputable def B_product : ST := (vSeq (vSetO 3 (v2 mulV (frD (vLst (vCons (toD (vC (.int 0))) vNil))) (toD (v2 maxI (toD (vC (.int 0))) (toD (v2 subI (frD (v2 addV (toD (v1 lenP (vVarD 1))) (toD (v1 lenP (vVarD 2))))) (toD (vC (.int 1)))))))))
  (vSeq (vFor (vItEnum (toD (vVar 1))) (gT 2 (gsC (gN 4) (gsC (gN 5) gsN)))
  (vFor (vItEnum (toD (vVar 2))) (gT 2 (gsC (gN 6) (gsC (gN 7) gsN)))
  (vSetI (plN 3) (frD (v2 addV (vVarD 4) (vVarD 6))) (unO (v2 modI (frD (v2 addV (toD (plP (plX (plN 3) (frD (v2 addV (vVarD 4) (vVarD 6)))))) (frD (v2 mulV (vVarD 5) (vVarD 7))))) (toD (vFld "Table" "prime" (vVar 0))))))))
  (vRetV 3)))
noncomputable def S_product : Fn := mkFn 5 B_product

noncomputable def B_through : ST := (vSeq (vSet 2 (frO (v2 mulV (frD (vLst (vCons (toD (vC (.int 0))) vNil))) (toD (v1 lenP (vVarD 1))))))
  (vSeq (vFor (vItEnum (toD (vVar 1))) (gT 2 (gsC (gN 3) (gsC (gN 4) gsN)))
  (vSeq (vSet 5 (frO (vLst (vCons (toD (v2 ixP (vVarD 4) (toD (vC (.int 1))))) vNil))))
  (vSeq (vFor (vItEnum (toD (vVar 1))) (gT 2 (gsC (gN 6) (gsC (gN 7) gsN)))
  (vIfS (toT (vCmp .ne (vVarD 6) (vVarD 3))) (vSeq (vIfS (toT (vCmp .eq (toD (v2 ixP (vVarD 7) (toD (vC (.int 0))))) (toD (v2 ixP (vVarD 4) (toD (vC (.int 0))))))) (vRaise "AlikePoints") vSkip)
  (vSeq (vSet 8 (frO (vCall S_back (aC (vVar 0) (aC (v2 modI (toD (v2 subI (toD (v2 ixP (vVarD 4) (toD (vC (.int 0))))) (toD (v2 ixP (vVarD 7) (toD (vC (.int 0))))))) (toD (vFld "Table" "prime" (vVar 0)))) aN)))))
  (vSet 5 (frO (vCall S_product (aC (vVar 0) (aC (vVar 5) (aC (frO (vLst (vCons (toD (v2 modI (frD (v2 mulV (toD (v1 negI (toD (v2 ixP (vVarD 7) (toD (vC (.int 0))))))) (vVarD 8))) (toD (vFld "Table" "prime" (vVar 0))))) (vCons (toD (vVar 8)) vNil)))) aN)))))))) vSkip))
  (vSet 2 (frO (vComp (vItZip (vVarD 2) (vVarD 5)) (gT 2 (gsC (gN 9) (gsC (gN 10) gsN))) vYes (unO (v2 modI (frD (v2 addV (vVarD 9) (vVarD 10))) (toD (vFld "Table" "prime" (vVar 0))))) [9, 10]))))))
  (vRetP (vVar 2))))
noncomputable def S_through : Fn := mkFn 9 B_through

noncomputable def B_weights : ST := (vSeq (vSetO 1 (vLst vNil))
  (vSeq (vFor (v2 rng2 (toD (vC (.int 1))) (frD (v2 addV (toD (vFld "Table" "hands" (vVar 0))) (toD (vC (.int 1)))))) (gN 2)
  (vSeq (vSet 3 (frO (vComp (v2 rng2 (toD (vC (.int 1))) (frD (v2 addV (toD (vFld "Table" "hands" (vVar 0))) (toD (vC (.int 1)))))) (gN 4) vYes (unO (vTup (vCons (toD (vVar 4)) (vCons (toD (frO (v1 intP (toD (vCmp .eq (vVarD 4) (vVarD 2)))))) vNil)))) [4])))
  (vEx (vApp (plN 1) (unO (v2 ixP (frD (vCall S_through (aC (vVar 0) (aC (vVar 3) aN)))) (toD (vC (.int 0)))))))))
  (vRetV 1)))
noncomputable def S_weights : Fn := mkFn 4 B_weights

noncomputable def B_dealt : ST := (vRet (vComp (v2 rng2 (toD (vC (.int 1))) (frD (v2 addV (toD (vFld "Table" "hands" (vVar 0))) (toD (vC (.int 1)))))) (gN 3) vYes (vCall S_worth (aC (vVar 0) (aC (frO (v2 addV (frD (vLst (vCons (toD (vVar 1)) vNil))) (frD (v1 listP (vVarD 2))))) (aC (vVar 3) aN)))) [3]))
noncomputable def S_dealt : Fn := mkFn 1 B_dealt

noncomputable def B__law_row : ST := (vSeq (vIfS (vOrT (vNotT (toT (v1 (fun y => iB (isI .list y)) (vVarD 0)))) (toT (vCmp .ne (toD (v1 lenP (vVarD 0))) (toD (v1 lenP (vVarD 1)))))) (vRetP (vC (.bool false))) vSkip)
  (vSeq (vFor (vItZip (toD (vVar 0)) (toD (vVar 1))) (gT 2 (gsC (gN 2) (gsC (gN 3) gsN)))
  (vIfS (vOrT (vNotT (toT (frO (vCall S__law_whole (aC (vVar 2) aN))))) (toT (vCmp .ne (vVarD 2) (vVarD 3)))) (vRetP (vC (.bool false))) vSkip))
  (vRetP (vC (.bool true)))))
noncomputable def S__law_row : Fn := mkFn 2 B__law_row

noncomputable def B_is_number : ST := (vRetP (vChain .le .lt (toD (vC (.int 0))) (vVarD 1) (toD (vFld "Table" "prime" (vVar 0)))))
noncomputable def S_is_number : Fn := mkFn 0 B_is_number

noncomputable def B_step_right : ST := (vSeq (vSet 3 (v2 ixP (vVarD 1) (toD (vC (.int 0)))))
  (vSeq (vIfS (toT (vCmp .eq (vVarD 3) (toD (vC (.str "in"))))) (vRetP (vChain .le .le (toD (vC (.int 1))) (toD (v2 ixP (vVarD 1) (toD (vC (.int 1))))) (toD (vFld "Table" "hands" (vVar 0))))) vSkip)
  (vSeq (vIfS (toT (vCmp .eq (vVarD 3) (toD (vC (.str "fix"))))) (vRet (vCall S_is_number (aC (vVar 0) (aC (v2 ixP (vVarD 1) (toD (vC (.int 1)))) aN)))) vSkip)
  (vSeq (vIfS (vNotT (toT (vChain .le .lt (toD (vC (.int 0))) (toD (v2 ixP (vVarD 1) (toD (vC (.int 1))))) (vVarD 2)))) (vRetP (vC (.bool false))) vSkip)
  (vSeq (vIfS (toT (vCmp .eq (vVarD 3) (toD (vC (.str "by"))))) (vRet (vCall S_is_number (aC (vVar 0) (aC (v2 ixP (vVarD 1) (toD (vC (.int 2)))) aN)))) vSkip)
  (vRetP (vOr (vCmp .isin (vVarD 3) (toD (vTup (vCons (toD (vC (.str "anew"))) (vCons (toD (vC (.str "open"))) vNil))))) (vChain .le .lt (toD (vC (.int 0))) (toD (v2 ixP (vVarD 1) (toD (vC (.int 2))))) (vVarD 2)))))))))
noncomputable def S_step_right : Fn := mkFn 1 B_step_right

noncomputable def B_right : ST := (vSeq (vIfS (vNotT (toT (vChain .le .le (toD (vC (.int 1))) (toD (v1 lenP (vVarD 1))) (toD (vC (.int 24)))))) (vRetP (vC (.bool false))) vSkip)
  (vRetP (v1 allP (frD (vComp (vItEnum (vVarD 1)) (gT 2 (gsC (gN 2) (gsC (gN 3) gsN))) vYes (vCall S_step_right (aC (vVar 0) (aC (vVar 3) (aC (vVar 2) aN)))) [2, 3])))))
noncomputable def S_right : Fn := mkFn 2 B_right

noncomputable def B_check_steps : ST := (vIfS (vNotT (toT (frO (vCall S_right (aC (vVar 0) (aC (vVar 1) aN)))))) (vRaise "BadSteps") vSkip)
noncomputable def S_check_steps : Fn := mkFn 0 B_check_steps

noncomputable def B_step_needs : ST := (vSeq (vIfS (toT (vCmp .eq (toD (v2 ixP (vVarD 1) (toD (vC (.int 0))))) (toD (vC (.str "in"))))) (vRetP (vFld "Table" "few" (vVar 0))) vSkip)
  (vSeq (vIfS (toT (vCmp .isin (toD (v2 ixP (vVarD 1) (toD (vC (.int 0))))) (toD (vTup (vCons (toD (vC (.str "mul"))) (vCons (toD (vC (.str "anew"))) vNil)))))) (vRet (v2 mulV (toD (vFld "Table" "few" (vVar 0))) (toD (vFld "Table" "hands" (vVar 0))))) vSkip)
  (vRetP (vC (.int 0)))))
noncomputable def S_step_needs : Fn := mkFn 0 B_step_needs

noncomputable def B_needs : ST := (vSeq (vDrop (vCall S_check_steps (aC (vVar 0) (aC (vVar 1) aN))))
  (vRetP (v1 sumP (frD (vComp (vItL (vVarD 1)) (gN 2) vYes (vCall S_step_needs (aC (vVar 0) (aC (vVar 2) aN))) [2])))))
noncomputable def S_needs : Fn := mkFn 1 B_needs

noncomputable def B__law_step_by : ST := (vSeq (vSet 3 (frO (vCall S__law_mix (aC (vVar 0) (aC (vC (.int 1)) (aC (vC (.int 9)) aN))))))
  (vSeq (vSet 4 (frO (v2 addV (toD (vC (.int 1))) (frD (vCall S__law_mix (aC (vVar 0) (aC (vC (.int 2)) (aC (vFld "Table" "hands" (vVar 2)) aN))))))))
  (vSeq (vIfS (vOrT (toT (vCmp .eq (vVarD 1) (toD (vC (.int 0))))) (toT (vCmp .lt (vVarD 3) (toD (vC (.int 2)))))) (vRetP (vTup (vCons (toD (vC (.str "in"))) (vCons (toD (vVar 4)) vNil)))) vSkip)
  (vSeq (vSet 5 (frO (vCall S__law_mix (aC (vVar 0) (aC (vC (.int 3)) (aC (vVar 1) aN))))))
  (vSeq (vSet 6 (frO (vCall S__law_mix (aC (vVar 0) (aC (vC (.int 4)) (aC (vVar 1) aN))))))
  (vSeq (vSet 7 (frO (vCall S__law_mix (aC (vVar 0) (aC (vC (.int 5)) (aC (vFld "Table" "prime" (vVar 2)) aN))))))
  (vSeq (vIfS (toT (vCmp .eq (vVarD 3) (toD (vC (.int 2))))) (vRetP (vTup (vCons (toD (vC (.str "fix"))) (vCons (toD (vVar 7)) vNil)))) vSkip)
  (vSeq (vIfS (toT (vCmp .eq (vVarD 3) (toD (vC (.int 3))))) (vRetP (vTup (vCons (toD (vC (.str "by"))) (vCons (toD (vVar 5)) (vCons (toD (vVar 7)) vNil))))) vSkip)
  (vSeq (vIfS (toT (vCmp .lt (vVarD 3) (toD (vC (.int 6))))) (vRetP (vTup (vCons (toD (v2 ixP (frD (vLst (vCons (toD (vC (.str "sum"))) (vCons (toD (vC (.str "less"))) vNil)))) (toD (v2 subI (vVarD 3) (toD (vC (.int 4))))))) (vCons (toD (vVar 5)) (vCons (toD (vVar 6)) vNil))))) vSkip)
  (vSeq (vIfS (toT (vCmp .eq (vVarD 3) (toD (vC (.int 6))))) (vRetP (vTup (vCons (toD (vC (.str "mul"))) (vCons (toD (vVar 5)) (vCons (toD (vVar 6)) vNil))))) vSkip)
  (vRetP (vTup (vCons (toD (v2 ixP (frD (vLst (vCons (toD (vC (.str "anew"))) (vCons (toD (vC (.str "open"))) vNil)))) (toD (v2 subI (vVarD 3) (toD (vC (.int 7))))))) (vCons (toD (vVar 5)) vNil))))))))))))))
noncomputable def S__law_step_by : Fn := mkFn 5 B__law_step_by

noncomputable def B__law_steps_by : ST := (vRet (vComp (v1 rng1 (vVarD 2)) (gN 4) vYes (vCall S__law_step_by (aC (frO (vCall S__law_cell_at (aC (vVar 0) (aC (frO (v2 addV (vVarD 1) (vVarD 4))) aN)))) (aC (vVar 4) (aC (vVar 3) aN)))) [4]))
noncomputable def S__law_steps_by : Fn := mkFn 1 B__law_steps_by

noncomputable def B__law_used : ST := (vRetP (v1 lenP (frD (vComp (vItL (vVarD 0)) (gN 2) (toT (vCmp .eq (vVarD 2) (toD (vTup (vCons (toD (vC (.str "in"))) (vCons (toD (vVar 1)) vNil)))))) (unO (vVar 2)) [2]))))
noncomputable def S__law_used : Fn := mkFn 1 B__law_used

noncomputable def B__law_inputs_by : ST := (vSeq (vSetO 3 (vLst vNil))
  (vSeq (vFor (v2 rng2 (toD (vC (.int 1))) (frD (v2 addV (toD (vFld "Table" "hands" (vVar 2))) (toD (vC (.int 1)))))) (gN 4)
  (vSeq (vSet 5 (frO (v2 addV (frD (vCall S__law_used (aC (vVar 1) (aC (vVar 4) aN)))) (frD (vCall S__law_mix (aC (vVar 0) (aC (frO (v2 addV (toD (vC (.int 60))) (vVarD 4))) (aC (vC (.int 2)) aN))))))))
  (vEx (vApp (plN 3) (vComp (v1 rng1 (vVarD 5)) (gN 6) vYes (vCall S__law_mix (aC (vVar 0) (aC (frO (v2 addV (frD (v2 addV (toD (vC (.int 70))) (frD (v2 mulV (toD (vC (.int 9))) (vVarD 4))))) (vVarD 6))) (aC (vFld "Table" "prime" (vVar 2)) aN)))) [6])))))
  (vRetV 3)))
noncomputable def S__law_inputs_by : Fn := mkFn 4 B__law_inputs_by

noncomputable def B__law_needs : ST := (vSeq (vSet 2 (vC (.int 0)))
  (vSeq (vFor (vItL (toD (vVar 0))) (gN 3)
  (vSet 2 (frO (v2 addV (vVarD 2) (frD (v2 mulV (toD (vFld "Table" "few" (vVar 1))) (toD (vDG3 "in" "mul" "anew" (vC (.int 1)) (vFld "Table" "hands" (vVar 1)) (vFld "Table" "hands" (vVar 1)) (toD (v2 ixP (vVarD 3) (toD (vC (.int 0))))) (vC (.int 0))))))))))
  (vRetP (vVar 2))))
noncomputable def S__law_needs : Fn := mkFn 2 B__law_needs

noncomputable def B_used : ST := (vRetP (v1 lenP (frD (vComp (vItL (vVarD 0)) (gN 2) (vAndT (toT (vCmp .eq (toD (v2 ixP (vVarD 2) (toD (vC (.int 0))))) (toD (vC (.str "in"))))) (toT (vCmp .eq (toD (v2 ixP (vVarD 2) (toD (vC (.int 1))))) (vVarD 1)))) (unO (vVar 2)) [2]))))
noncomputable def S_used : Fn := mkFn 1 B_used

noncomputable def B_check_inputs : ST := (vSeq (vIfS (toT (vCmp .ne (toD (v1 lenP (vVarD 2))) (toD (vFld "Table" "hands" (vVar 0))))) (vRaise "BadInputs") vSkip)
  (vFor (vItEnum (toD (vVar 2))) (gT 2 (gsC (gN 3) (gsC (gN 4) gsN)))
  (vIfS (vOrT (vNotT (toT (v1 allP (frD (vComp (vItL (vVarD 4)) (gN 5) vYes (vCall S_is_number (aC (vVar 0) (aC (vVar 5) aN))) [5]))))) (toT (vCmp .lt (toD (v1 lenP (vVarD 4))) (frD (vCall S_used (aC (vVar 1) (aC (frO (v2 addV (vVarD 3) (toD (vC (.int 1))))) aN))))))) (vRaise "BadInputs") vSkip)))
noncomputable def S_check_inputs : Fn := mkFn 3 B_check_inputs

noncomputable def B_joined : ST := (vSeq (vIfS (toT (vCmp .eq (toD (v2 ixP (vVarD 1) (toD (vC (.int 0))))) (toD (vC (.str "sum"))))) (vRetP (v2 modI (frD (v2 addV (vVarD 2) (vVarD 3))) (toD (vFld "Table" "prime" (vVar 0))))) vSkip)
  (vSeq (vIfS (toT (vCmp .eq (toD (v2 ixP (vVarD 1) (toD (vC (.int 0))))) (toD (vC (.str "less"))))) (vRetP (v2 modI (toD (v2 subI (vVarD 2) (vVarD 3))) (toD (vFld "Table" "prime" (vVar 0))))) vSkip)
  (vRetP (v2 modI (frD (v2 mulV (vVarD 2) (vVarD 3))) (toD (vFld "Table" "prime" (vVar 0)))))))
noncomputable def S_joined : Fn := mkFn 0 B_joined

noncomputable def B_Desk___init__ : ST := (vSeq (vSetF "Desk" 0 "table" (unO (vVar 1)))
  (vSeq (vSetF "Desk" 0 "left" (vComp (vItL (vVarD 2)) (gN 4) vYes (v1 listP (vVarD 4)) [4]))
  (vSeq (vSetF "Desk" 0 "chance" (unO (frO (v1 listP (vVarD 3)))))
  (vSeq (vSetF "Desk" 0 "shares" (vLst vNil))
  (vSeq (vSetF "Desk" 0 "letters" (vLst vNil))
  (vSetF "Desk" 0 "weights" (unO (frO (vCall S_weights (aC (vVar 1) aN))))))))))
noncomputable def S_Desk___init__ : Fn := mkFn 1 B_Desk___init__

noncomputable def B_Desk_send : ST := (vFor (v2 rng2 (toD (vC (.int 1))) (frD (v2 addV (toD (vFld "Table" "hands" (plP (plF "Desk" "table" (plN 0))))) (toD (vC (.int 1)))))) (gN 3)
  (vIfS (toT (vCmp .ne (vVarD 3) (vVarD 1))) (vEx (vApp (plF "Desk" "letters" (plN 0)) (unO (vTup (vCons (toD (plL (plF "Desk" "shares" (plN 0)))) (vCons (toD (vVar 1)) (vCons (toD (vVar 3)) (vCons (toD (v2 ixP (vVarD 2) (toD (v2 subI (vVarD 3) (toD (vC (.int 1))))))) vNil)))))))) vSkip))
noncomputable def S_Desk_send : Fn := mkFn 1 B_Desk_send

noncomputable def B_Desk_deal : ST := (vSeq (vSet 3 (vFld "Table" "few" (plP (plF "Desk" "table" (plN 0)))))
  (vSeq (vSet 4 (frO (vSl (toD (plP (plF "Desk" "chance" (plN 0)))) vNoPart (vPart (vVarD 3)))))
  (vSeq (vSetF "Desk" 0 "chance" (unO (frO (vSl (toD (plP (plF "Desk" "chance" (plN 0)))) (vPart (vVarD 3)) vNoPart))))
  (vSeq (vSet 5 (frO (vCall S_dealt (aC (plP (plF "Desk" "table" (plN 0))) (aC (vVar 2) (aC (vVar 4) aN))))))
  (vSeq (vEx (vMethX "Desk" "send" S_Desk_send 0 (xP (pF (vVar 1) (pF (vVar 5) pN)))))
  (vRetP (vVar 5)))))))
noncomputable def S_Desk_deal : Fn := mkFn 3 B_Desk_deal

noncomputable def B_Desk_summed : ST := (vSeq (vSetO 3 (vLst vNil))
  (vSeq (vFor (v1 rng1 (toD (vFld "Table" "hands" (plP (plF "Desk" "table" (plN 0)))))) (gN 4)
  (vEx (vApp (plN 3) (unO (v2 modI (toD (v1 sumP (frD (vComp (vItZip (vVarD 2) (vVarD 1)) (gT 2 (gsC (gN 5) (gsC (gN 6) gsN))) vYes (v2 mulV (vVarD 5) (toD (v2 ixP (vVarD 6) (vVarD 4)))) [5, 6])))) (toD (vFld "Table" "prime" (plP (plF "Desk" "table" (plN 0))))))))))
  (vRetV 3)))
noncomputable def S_Desk_summed : Fn := mkFn 4 B_Desk_summed

noncomputable def B_Desk_local : ST := (vSeq (vSet 2 (plP (plX (plF "Desk" "shares" (plN 0)) (toD (v2 ixP (vVarD 1) (toD (vC (.int 1))))))))
  (vSeq (vSet 3 (plP (plX (plF "Desk" "shares" (plN 0)) (toD (v2 ixP (vVarD 1) (toD (vC (.int 2))))))))
  (vRet (vComp (vItZip (vVarD 2) (vVarD 3)) (gT 2 (gsC (gN 4) (gsC (gN 5) gsN))) vYes (vCall S_joined (aC (plP (plF "Desk" "table" (plN 0))) (aC (vVar 1) (aC (vVar 4) (aC (vVar 5) aN))))) [4, 5]))))
noncomputable def S_Desk_local : Fn := mkFn 4 B_Desk_local

noncomputable def B_Desk_made : ST := (vSeq (vSet 2 (vFld "Table" "hands" (plP (plF "Desk" "table" (plN 0)))))
  (vSeq (vIfS (toT (vCmp .eq (toD (v2 ixP (vVarD 1) (toD (vC (.int 0))))) (toD (vC (.str "in"))))) (vRetE (vMethX "Desk" "deal" S_Desk_deal 0 (xF (v2 ixP (vVarD 1) (toD (vC (.int 1)))) (xE (vPop0 (plX (plF "Desk" "left" (plN 0)) (toD (v2 subI (toD (v2 ixP (vVarD 1) (toD (vC (.int 1))))) (toD (vC (.int 1))))))) (xP pN))))) vSkip)
  (vSeq (vIfS (toT (vCmp .eq (toD (v2 ixP (vVarD 1) (toD (vC (.int 0))))) (toD (vC (.str "fix"))))) (vRet (v2 mulV (frD (vLst (vCons (toD (v2 ixP (vVarD 1) (toD (vC (.int 1))))) vNil))) (vVarD 2))) vSkip)
  (vSeq (vIfS (toT (vCmp .eq (toD (v2 ixP (vVarD 1) (toD (vC (.int 0))))) (toD (vC (.str "by"))))) (vRet (vComp (vItL (toD (plP (plX (plF "Desk" "shares" (plN 0)) (toD (v2 ixP (vVarD 1) (toD (vC (.int 1))))))))) (gN 5) vYes (unO (v2 modI (frD (v2 mulV (vVarD 5) (toD (v2 ixP (vVarD 1) (toD (vC (.int 2))))))) (toD (vFld "Table" "prime" (plP (plF "Desk" "table" (plN 0))))))) [5])) vSkip)
  (vSeq (vIfS (toT (vCmp .eq (toD (v2 ixP (vVarD 1) (toD (vC (.int 0))))) (toD (vC (.str "open"))))) (vSeq (vFor (v2 rng2 (toD (vC (.int 1))) (frD (v2 addV (vVarD 2) (toD (vC (.int 1)))))) (gN 3)
  (vEx (vMethX "Desk" "send" S_Desk_send 0 (xP (pF (vVar 3) (pF (frO (v2 mulV (frD (vLst (vCons (toD (v2 ixP (toD (plP (plX (plF "Desk" "shares" (plN 0)) (toD (v2 ixP (vVarD 1) (toD (vC (.int 1)))))))) (toD (v2 subI (vVarD 3) (toD (vC (.int 1))))))) vNil))) (vVarD 2))) pN))))))
  (vRet (v1 listP (toD (plP (plX (plF "Desk" "shares" (plN 0)) (toD (v2 ixP (vVarD 1) (toD (vC (.int 1))))))))))) vSkip)
  (vSeq (vIfS (toT (vCmp .eq (toD (v2 ixP (vVarD 1) (toD (vC (.int 0))))) (toD (vC (.str "mul"))))) (vSeq (vSetE 4 (frE (vCompE (vItEnum (toD (frO (vMethP "Desk" "local" S_Desk_local 0 (pF (vVar 1) pN))))) (gT 2 (gsC (gN 6) (gsC (gN 7) gsN))) (vMethX "Desk" "deal" S_Desk_deal 0 (xP (pF (frO (v2 addV (vVarD 6) (toD (vC (.int 1))))) (pF (vVar 7) pN)))) [6, 7])))
  (vRetE (vMethX "Desk" "summed" S_Desk_summed 0 (xP (pF (vVar 4) (pF (plP (plF "Desk" "weights" (plN 0))) pN)))))) vSkip)
  (vSeq (vIfS (toT (vCmp .eq (toD (v2 ixP (vVarD 1) (toD (vC (.int 0))))) (toD (vC (.str "anew"))))) (vSeq (vSetE 4 (frE (vCompE (v1 rng1 (vVarD 2)) (gN 6) (vMethX "Desk" "deal" S_Desk_deal 0 (xP (pF (frO (v2 addV (vVarD 6) (toD (vC (.int 1))))) (pF (vC (.int 0)) pN)))) [6])))
  (vRetE (vMethX "Desk" "summed" S_Desk_summed 0 (xP (pF (frO (v2 addV (frD (vLst (vCons (toD (plP (plX (plF "Desk" "shares" (plN 0)) (toD (v2 ixP (vVarD 1) (toD (vC (.int 1)))))))) vNil))) (vVarD 4))) (pF (frO (v2 mulV (frD (vLst (vCons (toD (vC (.int 1))) vNil))) (frD (v2 addV (vVarD 2) (toD (vC (.int 1))))))) pN)))))) vSkip)
  (vRet (vMethP "Desk" "local" S_Desk_local 0 (pF (vVar 1) pN))))))))))
noncomputable def S_Desk_made : Fn := mkFn 6 B_Desk_made

noncomputable def B_Desk_step : ST := (vEx (vAppE (plF "Desk" "shares" (plN 0)) (frE (vMethX "Desk" "made" S_Desk_made 0 (xP (pF (vVar 1) pN))))))
noncomputable def S_Desk_step : Fn := mkFn 0 B_Desk_step

noncomputable def B_check_chance : ST := (vIfS (vOrT (toT (vCmp .ne (toD (v1 lenP (vVarD 2))) (frD (vCall S_needs (aC (vVar 0) (aC (vVar 1) aN)))))) (vNotT (toT (v1 allP (frD (vComp (vItL (vVarD 2)) (gN 3) vYes (vCall S_is_number (aC (vVar 0) (aC (vVar 3) aN))) [3])))))) (vRaise "BadChance") vSkip)
noncomputable def S_check_chance : Fn := mkFn 1 B_check_chance

noncomputable def B_check_all : ST := (vSeq (vDrop (vCall S_check_steps (aC (vVar 0) (aC (vVar 1) aN))))
  (vSeq (vDrop (vCall S_check_inputs (aC (vVar 0) (aC (vVar 1) (aC (vVar 2) aN)))))
  (vDrop (vCall S_check_chance (aC (vVar 0) (aC (vVar 1) (aC (vVar 3) aN)))))))
noncomputable def S_check_all : Fn := mkFn 0 B_check_all

noncomputable def B_run : ST := (vSeq (vDrop (vCall S_check_all (aC (vVar 0) (aC (vVar 1) (aC (vVar 2) (aC (vVar 3) aN))))))
  (vSeq (vSetO 4 (vMake "Desk" S_Desk___init__ (aC (vVar 0) (aC (vVar 2) (aC (vVar 3) aN)))))
  (vSeq (vSetO 5 (vLst vNil))
  (vSeq (vFor (vItEnum (toD (vVar 1))) (gT 2 (gsC (gN 6) (gsC (gN 7) gsN)))
  (vSeq (vEx (vMethX "Desk" "step" S_Desk_step 4 (xP (pF (vVar 7) pN))))
  (vIfS (toT (vCmp .eq (toD (v2 ixP (vVarD 7) (toD (vC (.int 0))))) (toD (vC (.str "open"))))) (vEx (vAppE (plN 5) (vTupX (xF (vVar 6) (xE (vIxE (frE (vMethX "Desk" "summed" S_Desk_summed 4 (xP (pF (frO (vComp (vItL (toD (plP (plX (plF "Desk" "shares" (plN 4)) (vVarD 6))))) (gN 8) vYes (v2 mulV (frD (vLst (vCons (toD (vVar 8)) vNil))) (toD (vFld "Table" "hands" (vVar 0)))) [8])) (pF (plP (plF "Desk" "weights" (plN 4))) pN))))) 0) (xP pN)))))) vSkip)))
  (vSeq (vFrz 5 [])
  (vSeq (vFrz 4 [.fld "Desk" "shares"])
  (vSeq (vFrz 4 [.fld "Desk" "letters"])
  (vRetP (vTup (vCons (toD (plP (plF "Desk" "shares" (plN 4)))) (vCons (toD (plP (plF "Desk" "letters" (plN 4)))) (vCons (toD (vVar 5)) vNil))))))))))))
noncomputable def S_run : Fn := mkFn 5 B_run

noncomputable def B__law_chance_by : ST := (vRet (vComp (v1 rng1 (frD (vCall S__law_needs (aC (vVar 1) (aC (vVar 2) aN))))) (gN 3) vYes (vCall S__law_mix (aC (vVar 0) (aC (frO (v2 addV (toD (vC (.int 200))) (vVarD 3))) (aC (vFld "Table" "prime" (vVar 2)) aN)))) [3]))
noncomputable def S__law_chance_by : Fn := mkFn 1 B__law_chance_by

noncomputable def B_check_hands : ST := (vSeq (vSet 2 (vC (.int 0)))
  (vFor (vItL (toD (vVar 1))) (gN 3)
  (vSeq (vIfS (vNotT (toT (vChain .lt .le (vVarD 2) (vVarD 3) (toD (vFld "Table" "hands" (vVar 0)))))) (vRaise "BadHands") vSkip)
  (vSet 2 (vVar 3)))))
noncomputable def S_check_hands : Fn := mkFn 2 B_check_hands

noncomputable def B_dealers : ST := (vSeq (vIfS (toT (vCmp .eq (toD (v2 ixP (vVarD 1) (toD (vC (.int 0))))) (toD (vC (.str "in"))))) (vRet (vLst (vCons (toD (v2 ixP (vVarD 1) (toD (vC (.int 1))))) vNil))) vSkip)
  (vSeq (vIfS (toT (vCmp .isin (toD (v2 ixP (vVarD 1) (toD (vC (.int 0))))) (toD (vTup (vCons (toD (vC (.str "mul"))) (vCons (toD (vC (.str "anew"))) vNil)))))) (vRet (v2 lrg2 (toD (vC (.int 1))) (frD (v2 addV (toD (vFld "Table" "hands" (vVar 0))) (toD (vC (.int 1))))))) vSkip)
  (vRet (vLst vNil))))
noncomputable def S_dealers : Fn := mkFn 0 B_dealers

noncomputable def B_inputs_used : ST := (vRet (vComp (vItL (vVarD 2)) (gN 3) vYes (v1 listP (frD (vSl (toD (v2 ixP (vVarD 1) (toD (v2 subI (vVarD 3) (toD (vC (.int 1))))))) vNoPart (vPart (frD (vCall S_used (aC (vVar 0) (aC (vVar 3) aN)))))))) [3]))
noncomputable def S_inputs_used : Fn := mkFn 1 B_inputs_used

noncomputable def B_seen : ST := (vSeq (vDrop (vCall S_check_all (aC (vVar 0) (aC (vVar 1) (aC (vVar 2) (aC (vVar 3) aN))))))
  (vSeq (vDrop (vCall S_check_hands (aC (vVar 0) (aC (vVar 4) aN))))
  (vSeq (vSet 5 (frO (vLst vNil)))
  (vSeq (vSet 6 (vC (.int 0)))
  (vSeq (vFor (vItL (toD (vVar 1))) (gN 7)
  (vFor (vItL (toD (frO (vCall S_dealers (aC (vVar 0) (aC (vVar 7) aN)))))) (gN 8)
  (vSeq (vIfS (toT (vCmp .isin (vVarD 8) (vVarD 4))) (vSet 5 (frO (v2 addV (vVarD 5) (frD (v1 listP (frD (vSl (vVarD 3) (vPart (vVarD 6)) (vPart (frD (v2 addV (vVarD 6) (toD (vFld "Table" "few" (vVar 0))))))))))))) vSkip)
  (vSet 6 (frO (v2 addV (vVarD 6) (toD (vFld "Table" "few" (vVar 0)))))))))
  (vSeq (vSet 9 (frO (vComp (vItL (toD (v2 ixP (frD (vCall S_run (aC (vVar 0) (aC (vVar 1) (aC (vVar 2) (aC (vVar 3) aN)))))) (toD (vC (.int 1)))))) (gN 10) (toT (vCmp .isin (toD (v2 ixP (vVarD 10) (toD (vC (.int 2))))) (vVarD 4))) (unO (vVar 10)) [10])))
  (vRetP (vTup (vCons (toD (frO (vCall S_inputs_used (aC (vVar 1) (aC (vVar 2) (aC (vVar 4) aN)))))) (vCons (toD (vVar 5)) (vCons (toD (vVar 9)) vNil)))))))))))
noncomputable def S_seen : Fn := mkFn 6 B_seen

noncomputable def B_seenT : ST := (vSeq (vDrop (vCall S_check_all (aC (vVar 0) (aC (vVar 1) (aC (vVar 2) (aC (vVar 3) aN))))))
  (vSeq (vDrop (vCall S_check_hands (aC (vVar 0) (aC (vVar 4) aN))))
  (vSeq (vSetO 5 (vLst vNil))
  (vSeq (vSet 6 (vC (.int 0)))
  (vSeq (vFor (vItL (toD (vVar 1))) (gN 7)
  (vFor (vItL (toD (frO (vCall S_dealers (aC (vVar 0) (aC (vVar 7) aN)))))) (gN 8)
  (vSeq (vIfS (toT (vCmp .isin (vVarD 8) (vVarD 4))) (vSetO 5 (v2 addV (vVarD 5) (frD (v1 listP (frD (vSl (vVarD 3) (vPart (vVarD 6)) (vPart (frD (v2 addV (vVarD 6) (toD (vFld "Table" "few" (vVar 0)))))))))))) vSkip)
  (vSet 6 (frO (v2 addV (vVarD 6) (toD (vFld "Table" "few" (vVar 0)))))))))
  (vSeq (vSetO 9 (vComp (vItL (toD (v2 ixP (frD (vCall S_run (aC (vVar 0) (aC (vVar 1) (aC (vVar 2) (aC (vVar 3) aN)))))) (toD (vC (.int 1)))))) (gN 10) (toT (vCmp .isin (toD (v2 ixP (vVarD 10) (toD (vC (.int 2))))) (vVarD 4))) (unO (vVar 10)) [10]))
  (vRetT3 (vCall S_inputs_used (aC (vVar 1) (aC (vVar 2) (aC (vVar 4) aN)))) 5 9)))))))
noncomputable def S_seenT : Fn := mkFn 6 B_seenT

noncomputable def B__law_own : ST := (vSeq (vSet 4 (frO (vLst vNil)))
  (vSeq (vSet 5 (vC (.int 0)))
  (vSeq (vFor (vItL (toD (vVar 1))) (gN 6)
  (vSeq (vSet 7 (frO (vLst vNil)))
  (vSeq (vIfS (toT (vCmp .eq (toD (v2 ixP (vVarD 6) (toD (vC (.int 0))))) (toD (vC (.str "in"))))) (vSet 7 (frO (vLst (vCons (toD (v2 ixP (vVarD 6) (toD (vC (.int 1))))) vNil)))) vSkip)
  (vSeq (vIfS (toT (vCmp .isin (toD (v2 ixP (vVarD 6) (toD (vC (.int 0))))) (toD (vTup (vCons (toD (vC (.str "mul"))) (vCons (toD (vC (.str "anew"))) vNil)))))) (vSet 7 (frO (v2 lrg2 (toD (vC (.int 1))) (frD (v2 addV (toD (vFld "Table" "hands" (vVar 0))) (toD (vC (.int 1)))))))) vSkip)
  (vFor (vItL (toD (vVar 7))) (gN 8)
  (vSeq (vIfS (toT (vCmp .isin (vVarD 8) (vVarD 3))) (vSet 4 (frO (v2 addV (vVarD 4) (frD (vSl (vVarD 2) (vPart (vVarD 5)) (vPart (frD (v2 addV (vVarD 5) (toD (vFld "Table" "few" (vVar 0))))))))))) vSkip)
  (vSet 5 (frO (v2 addV (vVarD 5) (toD (vFld "Table" "few" (vVar 0))))))))))))
  (vRetP (vVar 4)))))
noncomputable def S__law_own : Fn := mkFn 5 B__law_own

noncomputable def B_law_v14 : ST := (vSeq (vSet 1 (frO (vCall S__law_table_by (aC (frO (vCall S__law_cell_at (aC (vVar 0) (aC (vC (.int 0)) aN)))) aN))))
  (vSeq (vSet 2 (frO (vCall S__law_steps_by (aC (vVar 0) (aC (vC (.int 6)) (aC (frO (v2 addV (toD (vC (.int 1))) (toD (v2 modI (frD (vCall S__law_cell_at (aC (vVar 0) (aC (vC (.int 1)) aN)))) (toD (vC (.int 10))))))) (aC (vVar 1) aN)))))))
  (vSeq (vSet 3 (frO (vCall S__law_inputs_by (aC (frO (vCall S__law_cell_at (aC (vVar 0) (aC (vC (.int 2)) aN)))) (aC (vVar 2) (aC (vVar 1) aN))))))
  (vSeq (vSet 4 (frO (vCall S__law_chance_by (aC (frO (vCall S__law_cell_at (aC (vVar 0) (aC (vC (.int 3)) aN)))) (aC (vVar 2) (aC (vVar 1) aN))))))
  (vSeq (vSet 5 (frO (vComp (v2 rng2 (toD (vC (.int 1))) (frD (v2 addV (toD (vFld "Table" "hands" (vVar 1))) (toD (vC (.int 1)))))) (gN 10) (toT (vCmp .eq (frD (vCall S__law_mix (aC (frO (vCall S__law_cell_at (aC (vVar 0) (aC (vC (.int 4)) aN)))) (aC (vVar 10) (aC (vC (.int 3)) aN))))) (toD (vC (.int 0))))) (unO (vVar 10)) [10])))
  (vSeq (vSet 6 (frO (vLst (vCons (toD (frO (vComp (vItL (vVarD 3)) (gN 11) vYes (v1 listP (vVarD 11)) [11]))) (vCons (toD (frO (v1 listP (vVarD 4)))) (vCons (toD (frO (v1 listP (vVarD 5)))) vNil))))))
  (vSeq (vSetO 7 (vCall S_seenT (aC (vVar 1) (aC (vVar 2) (aC (v2 ixP (vVarD 6) (toD (vC (.int 0)))) (aC (v2 ixP (vVarD 6) (toD (vC (.int 1)))) (aC (v2 ixP (vVarD 6) (toD (vC (.int 2)))) aN)))))))
  (vSeq (vIfS (vTmpT 7 [] (vOrT (toT (vCmp .ne (vVarD 6) (frD (vLst (vCons (toD (vVar 3)) (vCons (toD (vVar 4)) (vCons (toD (vVar 5)) vNil))))))) (vOrT (vNotT (toT (v1 (fun y => iB (isI .tuple y)) (vVarD 7)))) (toT (vCmp .ne (toD (v1 lenP (vVarD 7))) (toD (vC (.int 3)))))))) (vRetP (vC (.bool false))) vSkip)
  (vSeq (vSet 8 (frO (vComp (vItL (vVarD 5)) (gN 10) vYes (vSl (toD (v2 ixP (vVarD 3) (toD (v2 subI (vVarD 10) (toD (vC (.int 1))))))) vNoPart (vPart (frD (vCall S__law_used (aC (vVar 2) (aC (vVar 10) aN)))))) [10])))
  (vSeq (vIfS (vTmpT 7 [] (vOrT (vNotT (toT (v1 (fun y => iB (isI .list y)) (toD (v2 ixP (vVarD 7) (toD (vC (.int 0)))))))) (toT (vCmp .ne (toD (v1 lenP (toD (v2 ixP (vVarD 7) (toD (vC (.int 0))))))) (toD (v1 lenP (vVarD 8))))))) (vRetP (vC (.bool false))) vSkip)
  (vSeq (vIfS (vTmpT 7 [] (vNotT (toT (v1 allP (frD (vComp (vItZip (toD (v2 ixP (vVarD 7) (toD (vC (.int 0))))) (vVarD 8)) (gT 2 (gsC (gN 12) (gsC (gN 13) gsN))) vYes (vCall S__law_row (aC (vVar 12) (aC (vVar 13) aN))) [12, 13])))))) (vRetP (vC (.bool false))) vSkip)
  (vSeq (vIfS (vTmpT 7 [] (vOrT (vNotT (toT (frO (vCall S__law_row (aC (v2 ixP (vVarD 7) (toD (vC (.int 1)))) (aC (frO (vCall S__law_own (aC (vVar 1) (aC (vVar 2) (aC (vVar 4) (aC (vVar 5) aN)))))) aN)))))) (vNotT (toT (v1 (fun y => iB (isI .list y)) (toD (v2 ixP (vVarD 7) (toD (vC (.int 2)))))))))) (vRetP (vC (.bool false))) vSkip)
  (vSeq (vSet 9 (frO (vComp (vItL (toD (v2 ixP (frD (vCall S_run (aC (vVar 1) (aC (vVar 2) (aC (vVar 3) (aC (vVar 4) aN)))))) (toD (vC (.int 1)))))) (gN 14) (toT (vCmp .isin (toD (v2 ixP (vVarD 14) (toD (vC (.int 2))))) (vVarD 5))) (unO (vVar 14)) [14])))
  (vSeq (vIfS (vTmpT 7 [] (toT (vCmp .ne (toD (v2 ixP (vVarD 7) (toD (vC (.int 2))))) (vVarD 9)))) (vRetP (vC (.bool false))) vSkip)
  (vSeq (vEx (vApp (plX (plN 7) (toD (vC (.int 1)))) (unO (vC (.int 1)))))
  (vSeq (vEx (vApp (plX (plN 7) (toD (vC (.int 2)))) (unO (vTup (vCons (toD (vC (.int 0))) (vCons (toD (vC (.int 0))) (vCons (toD (vC (.int 0))) (vCons (toD (vC (.int 0))) vNil))))))))
  (vRetP (vCmp .eq (toD (v2 ixP (frD (vCall S_seenT (aC (vVar 1) (aC (vVar 2) (aC (vVar 3) (aC (vVar 4) (aC (vVar 5) aN))))))) (toD (vC (.int 2))))) (vVarD 9)))))))))))))))))))
noncomputable def S_law_v14 : Fn := mkFn 14 B_law_v14

end VL

set_option Elab.async false
set_option linter.all false
set_option maxRecDepth 100000
set_option maxHeartbeats 4000000
namespace VL
open PySem PySem.Spec PyProof.Rows L2

@[simp] theorem bind_ok {α β : Type} (a : α) (k : α → Res β) : (Res.ok a).bind k = k a := rfl
@[simp] theorem bind_err {α β : Type} (c : Str) (k : α → Res β) : (Res.err c : Res α).bind k = .err c := rfl
@[simp] theorem bind_bad {α β : Type} (k : α → Res β) : (Res.bad : Res α).bind k = .bad := rfl
theorem bind_congr {α β : Type} (r : Res α) {k k' : α → Res β} (h : ∀ x, k x = k' x) : r.bind k = r.bind k' := by cases r <;> simp [Res.bind, h]
theorem bind_assoc {α β γ : Type} (r : Res α) (k : α → Res β) (j : β → Res γ) : (r.bind k).bind j = r.bind fun a => (k a).bind j := by cases r <;> rfl
def dOf : FV → Res PyData
  | .d p => .ok p
  | _ => .bad
@[simp] theorem dOf_d (p : PyData) : dOf (.d p) = .ok p := rfl
def frF (s : SV) : Res FV := match s.frz? with
  | some x => .ok x
  | none => .bad
@[simp] theorem frF_f (x : FV) : frF (.f x) = .ok x := rfl
@[simp] theorem frF_dl (ds : List PyData) : frF (SV.dl ds) = .ok (.d (.list ds)) := by unfold frF; rw [frz?_dl]
@[simp] theorem toD_ap (f : FP) (e : Env) : toD f e = (f e).bind dOf := by
  exact bind_congr _ fun x => by cases x <;> rfl
@[simp] theorem frO_ap (f : FO) (e : Env) : frO f e = (f e).bind frF := rfl
theorem frz_frF (s : SV) : (match s.frz with | some x => Res.ok x | none => .bad) = (frF s).bind dOf := by
  cases s with
  | f x => cases x <;> rfl
  | own xs =>
    show (match (SV.frzs xs).map PyData.list with | some x => Res.ok x | none => .bad) = (match (SV.frzs xs).map (fun ps => FV.d (.list ps)) with | some x => Res.ok x | none => .bad).bind dOf
    cases SV.frzs xs <;> rfl
  | otup xs =>
    show (match (SV.frzs xs).map PyData.tuple with | some x => Res.ok x | none => .bad) = (match (SV.frzs xs).map (fun ps => FV.d (.tuple ps)) with | some x => Res.ok x | none => .bad).bind dOf
    cases SV.frzs xs <;> rfl
  | obj c fs =>
    show Res.bad = (match (SV.frzf fs).map (fun ps => FV.ob c ps) with | some x => Res.ok x | none => .bad).bind dOf
    cases SV.frzf fs <;> rfl
@[simp] theorem frD_ap (f : FO) (e : Env) : frD f e = ((f e).bind frF).bind dOf := by
  rw [bind_assoc]
  exact bind_congr _ fun s => frz_frF s
@[simp] theorem unO_ap (f : FP) (e : Env) : unO f e = (f e).bind fun x => .ok (.f x) := rfl
def ldP : Option Slot → Res FV
  | some (.va (.f x)) => .ok x
  | some (.rf (.f x)) => .ok x
  | some (.vw (.f x)) => .ok x
  | _ => .bad
@[simp] theorem ldP_va (x : FV) : ldP (some (.va (.f x))) = .ok x := rfl
@[simp] theorem ldP_rf (x : FV) : ldP (some (.rf (.f x))) = .ok x := rfl
@[simp] theorem ldP_vw (x : FV) : ldP (some (.vw (.f x))) = .ok x := rfl
@[simp] theorem vVar_ap (i : Nat) (e : Env) : vVar i e = ldP e[i]? := by
  unfold vVar ldP
  rfl
@[simp] theorem ldS_f (p : PyData) : ldS (.f (.d p)) = .ok p := rfl
@[simp] theorem ldS_dl (ds : List PyData) : ldS (SV.dl ds) = .ok (.list ds) := by
  show (match SV.leafs (ds.map fun p => .f (.d p)) with | some ds => Res.ok (PyData.list ds) | none => .bad) = _
  rw [leafs_map]
def ldD : Option Slot → Res PyData
  | some (.va s) => ldS s
  | some (.rf s) => ldS s
  | some (.vw s) => ldS s
  | _ => .bad
@[simp] theorem ldD_va (s : SV) : ldD (some (.va s)) = ldS s := rfl
@[simp] theorem ldD_rf (s : SV) : ldD (some (.rf s)) = ldS s := rfl
@[simp] theorem ldD_vw (s : SV) : ldD (some (.vw s)) = ldS s := rfl
@[simp] theorem vVarD_ap (i : Nat) (e : Env) : vVarD i e = ldD e[i]? := by
  unfold vVarD ldD ldS
  cases e[i]? with
  | none => rfl
  | some s =>
    cases s with
    | no => rfl
    | va s => cases s with
      | f x => cases x <;> rfl
      | _ => rfl
    | rf s => cases s with
      | f x => cases x <;> rfl
      | _ => rfl
    | vw s => cases s with
      | f x => cases x <;> rfl
      | _ => rfl
@[simp] theorem vC_ap (p : PyData) (e : Env) : vC p e = .ok (.d p) := rfl
@[simp] theorem v1_ap {α : Type} (h : PyData → Res α) (f : FD) (e : Env) : v1 h f e = (f e).bind h := rfl
@[simp] theorem v2_ap {α : Type} (h : PyData → PyData → Res α) (f g : FD) (e : Env) : v2 h f g e = (f e).bind fun x => (g e).bind fun y => h x y := rfl
@[simp] theorem vCmp_ap (c : Cop) (f g : FD) (e : Env) : vCmp c f g e = (f e).bind fun x => (g e).bind fun y => c.h x y := rfl
@[simp] theorem subI_i (i j : Int) : subI (.int i) (.int j) = .ok (.d (.int (i - j))) := rfl
@[simp] theorem cIf_yes {α : Type} {c : Prop} {a b : α} (h : c) : cIf c a b = a := cIf_pos h
@[simp] theorem modI_i (i j : Int) : modI (.int i) (.int j) = cIf (0 < j) (.ok (.d (.int (i % j)))) .bad := rfl
@[simp] theorem divI_i (i j : Int) : divI (.int i) (.int j) = cIf (0 < j ∧ j < 1073741824) (.ok (.d (.int (i / j)))) .bad := rfl
@[simp] theorem addV_i (i j : Int) : addV (.int i) (.int j) = .ok (.f (.d (.int (i + j)))) := rfl
@[simp] theorem addV_l (xs ys : List PyData) : addV (.list xs) (.list ys) = cIf (xs.length + ys.length ≤ 16777216) (.ok (SV.dl (xs ++ ys))) .bad := rfl
@[simp] theorem addV_t (xs ys : List PyData) : addV (.tuple xs) (.tuple ys) = cIf (xs.length + ys.length ≤ 16777216) (.ok (.f (.d (.tuple (xs ++ ys))))) .bad := rfl
@[simp] theorem mulV_i (i j : Int) : mulV (.int i) (.int j) = cIf ((-18446744073709551616 < i ∧ i < 18446744073709551616) ∨ (-18446744073709551616 < j ∧ j < 18446744073709551616)) (.ok (.f (.d (.int (i * j))))) .bad := rfl
@[simp] theorem mulV_rep (xs : List PyData) (k : Int) : mulV (.list xs) (.int k) = cIf (0 ≤ k ∧ k < 1000000 ∧ xs.length * k.toNat ≤ 16777216) (.ok (SV.dl (List.replicate k.toNat xs).flatten)) .bad := rfl
@[simp] theorem negI_i (i : Int) : negI (.int i) = .ok (.d (.int (-i))) := rfl
@[simp] theorem maxI_i (i j : Int) : maxI (.int i) (.int j) = .ok (.d (.int (if j > i then j else i))) := rfl
@[simp] theorem minI_i (i j : Int) : minI (.int i) (.int j) = .ok (.d (.int (if j < i then j else i))) := rfl
@[simp] theorem cop_lt (i j : Int) : Cop.h .lt (.int i) (.int j) = .ok (.d (.bool (decide (i < j)))) := rfl
@[simp] theorem cop_le (i j : Int) : Cop.h .le (.int i) (.int j) = .ok (.d (.bool (decide (i ≤ j)))) := rfl
@[simp] theorem cop_gt (i j : Int) : Cop.h .gt (.int i) (.int j) = .ok (.d (.bool (decide (j < i)))) := rfl
@[simp] theorem cop_ge (i j : Int) : Cop.h .ge (.int i) (.int j) = .ok (.d (.bool (decide (j ≤ i)))) := rfl
def fit : Nat → PyData → Bool
  | _, .none => true
  | _, .int _ => true
  | _, .str x => PyData.strOk x
  | n + 1, .list xs => xs.all (fit n)
  | n + 1, .tuple xs => xs.all (fit n)
  | _, _ => false
theorem fit_shape : ∀ (n : Nat) (d : PyData), fit n d = true → d.canLay0 = true ∧ d.depth ≤ n := by
  intro n
  induction n with
  | zero =>
    intro d h
    cases d with
    | none => exact ⟨by simp [PyData.canLay0], by simp [PyData.depth]⟩
    | int i => exact ⟨by simp [PyData.canLay0], by simp [PyData.depth]⟩
    | str x => exact ⟨by simpa [PyData.canLay0, fit] using h, by simp [PyData.depth]⟩
    | bool b => exact absurd h (by simp [fit])
    | list xs => exact absurd h (by simp [fit])
    | tuple xs => exact absurd h (by simp [fit])
    | dict xs => exact absurd h (by simp [fit])
  | succ n ih =>
    have key : ∀ xs : List PyData, xs.all (fit n) = true → PyData.canLayAll0 xs = true ∧ PyData.depthAll xs ≤ n := by
      intro xs
      induction xs with
      | nil => intro _; exact ⟨by simp [PyData.canLayAll0], by simp [PyData.depthAll]⟩
      | cons x xs ihx =>
        intro h
        rw [List.all_cons, Bool.and_eq_true] at h
        obtain ⟨a1, a2⟩ := ih x h.1
        obtain ⟨b1, b2⟩ := ihx h.2
        exact ⟨by simp [PyData.canLayAll0, a1, b1], by simp only [PyData.depthAll]; omega⟩
    intro d h
    cases d with
    | none => exact ⟨by simp [PyData.canLay0], by simp [PyData.depth]⟩
    | int i => exact ⟨by simp [PyData.canLay0], by simp [PyData.depth]⟩
    | str x => exact ⟨by simpa [PyData.canLay0, fit] using h, by simp [PyData.depth]⟩
    | bool b => exact absurd h (by simp [fit])
    | list xs =>
      obtain ⟨a, b⟩ := key xs (by simpa [fit] using h)
      exact ⟨by simpa [PyData.canLay0] using a, by simp only [PyData.depth]; omega⟩
    | tuple xs =>
      obtain ⟨a, b⟩ := key xs (by simpa [fit] using h)
      exact ⟨by simpa [PyData.canLay0] using a, by simp only [PyData.depth]; omega⟩
    | dict xs => exact absurd h (by simp [fit])
theorem fit_shaped {n : Nat} {d : PyData} (h : fit n d = true) (hn : n ≤ 64) : SeqAt.shaped d = true := by
  obtain ⟨a, b⟩ := fit_shape n d h
  unfold SeqAt.shaped
  rw [a, Bool.true_and]
  exact decide_eq_true (by omega)
theorem fit_eqv : ∀ (n : Nat) (d e : PyData), fit n d = true → fit n e = true → (PyData.eqv d e = true ↔ d = e) := by
  intro n
  induction n with
  | zero =>
    intro d e h h'
    cases d <;> cases e <;> simp_all [fit, PyData.eqv]
  | succ n ih =>
    have key : ∀ xs ys : List PyData, xs.all (fit n) = true → ys.all (fit n) = true → (PyData.eqvAll xs ys = true ↔ xs = ys) := by
      intro xs
      induction xs with
      | nil => intro ys _ _; cases ys <;> simp [PyData.eqvAll]
      | cons x xs ihx =>
        intro ys h h'
        cases ys with
        | nil => simp [PyData.eqvAll]
        | cons y ys =>
          rw [List.all_cons, Bool.and_eq_true] at h h'
          simp only [PyData.eqvAll, Bool.and_eq_true, ih x y h.1 h'.1, ihx ys h.2 h'.2, List.cons.injEq]
    intro d e h h'
    cases d with
    | list xs =>
      cases e with
      | list ys =>
        simp only [PyData.eqv, PyData.list.injEq]
        exact key xs ys (by simpa [fit] using h) (by simpa [fit] using h')
      | _ => simp_all [fit, PyData.eqv]
    | tuple xs =>
      cases e with
      | tuple ys =>
        simp only [PyData.eqv, PyData.tuple.injEq]
        exact key xs ys (by simpa [fit] using h) (by simpa [fit] using h')
      | _ => simp_all [fit, PyData.eqv]
    | _ => cases e <;> simp_all [fit, PyData.eqv]
open Classical in
theorem cop_eq {d e : PyData} (n : Nat) (h : fit n d = true) (h' : fit n e = true) (hn : n ≤ 64 := by decide) : Cop.h .eq d e = .ok (.d (.bool (decide (d = e)))) := by
  show eqP d e = _
  unfold eqP
  rw [if_pos ⟨fit_shaped h hn, fit_shaped h' hn⟩]
  have k := fit_eqv n d e h h'
  show Res.ok (FV.d (.bool (PyData.eqv d e))) = _
  by_cases q : d = e
  · rw [decide_eq_true q, k.mpr q]
  · rw [decide_eq_false q, Bool.eq_false_iff.mpr fun z => q (k.mp z)]
open Classical in
theorem cop_ne {d e : PyData} (n : Nat) (h : fit n d = true) (h' : fit n e = true) (hn : n ≤ 64 := by decide) : Cop.h .ne d e = .ok (.d (.bool (!decide (d = e)))) := by
  show neP d e = _
  unfold neP
  rw [if_pos ⟨fit_shaped h hn, fit_shaped h' hn⟩]
  have k := fit_eqv n d e h h'
  show Res.ok (FV.d (.bool (!PyData.eqv d e))) = _
  by_cases q : d = e
  · rw [decide_eq_true q, k.mpr q]
  · rw [decide_eq_false q, Bool.eq_false_iff.mpr fun z => q (k.mp z)]
@[simp] theorem cop_eq_i (i j : Int) : Cop.h .eq (.int i) (.int j) = .ok (.d (.bool (decide (i = j)))) := by
  rw [cop_eq 0 rfl rfl]
  simp
@[simp] theorem cop_ne_i (i j : Int) : Cop.h .ne (.int i) (.int j) = .ok (.d (.bool (!decide (i = j)))) := by
  rw [cop_ne 0 rfl rfl]
  simp
@[simp] theorem cop_eq_s (i j : Str) (hi : PyData.strOk i = true) (hj : PyData.strOk j = true) : Cop.h .eq (.str i) (.str j) = .ok (.d (.bool (decide (i = j)))) := by
  rw [cop_eq (d := .str i) (e := .str j) 0 hi hj]
  simp
@[simp] theorem cop_ne_s (i j : Str) (hi : PyData.strOk i = true) (hj : PyData.strOk j = true) : Cop.h .ne (.str i) (.str j) = .ok (.d (.bool (!decide (i = j)))) := by
  rw [cop_ne (d := .str i) (e := .str j) 0 hi hj]
  simp
def iL (ns : List Int) : PyData := .list (ns.map .int)
theorem fit_intsL (n : Nat) (ns : List Int) : (ns.map PyData.int).all (fit n) = true := by
  rw [List.all_eq_true]
  intro x m
  obtain ⟨i, _, rfl⟩ := List.mem_map.mp m
  cases n <;> rfl
theorem fit_ints (n : Nat) (ns : List Int) : fit (n + 1) (iL ns) = true := fit_intsL n ns
theorem map_int_inj {a b : List Int} : a.map PyData.int = b.map PyData.int ↔ a = b := by
  constructor
  · intro h
    induction a generalizing b with
    | nil => cases b with | nil => rfl | cons _ _ => cases h
    | cons x a ih => cases b with
      | nil => cases h
      | cons y b =>
        simp only [List.map_cons, List.cons.injEq, PyData.int.injEq] at h
        rw [h.1, ih h.2]
  · rintro rfl; rfl
@[simp] theorem cop_eq_ints (a b : List Int) : Cop.h .eq (.list (a.map .int)) (.list (b.map .int)) = .ok (.d (.bool (decide (a = b)))) := by
  rw [cop_eq (d := .list (a.map .int)) (e := .list (b.map .int)) 1 (fit_intsL 0 a) (fit_intsL 0 b)]
  simp [map_int_inj]
@[simp] theorem cop_ne_ints (a b : List Int) : Cop.h .ne (.list (a.map .int)) (.list (b.map .int)) = .ok (.d (.bool (!decide (a = b)))) := by
  rw [cop_ne (d := .list (a.map .int)) (e := .list (b.map .int)) 1 (fit_intsL 0 a) (fit_intsL 0 b)]
  simp [map_int_inj]
theorem inV_ints (x : Int) (ns : List Int) : inV (.int x) (ns.map fun i => V.int i) = decide (x ∈ ns) := by
  induction ns with
  | nil => rfl
  | cons n ns ih =>
    have e : inV (.int x) ((n :: ns).map fun i => V.int i) = ((n == x) || inV (.int x) (ns.map fun i => V.int i)) := rfl
    rw [e, ih]
    by_cases q : n = x
    · subst q; simp
    · have q' : ¬ x = n := fun z => q z.symm
      simp [q, q']
theorem flat_intsL (ns : List Int) : (ns.map PyData.int).all flatP = true := by
  rw [List.all_eq_true]
  intro x m
  obtain ⟨i, _, rfl⟩ := List.mem_map.mp m
  rfl
theorem toV_ints (ns : List Int) : (ns.map PyData.int).map toV = ns.map fun i => V.int i := by
  rw [List.map_map]; rfl
@[simp] theorem cop_in_ints (x : Int) (ns : List Int) : Cop.h .isin (.int x) (.list (ns.map .int)) = .ok (.d (.bool (decide (x ∈ ns)))) := by
  rw [show Cop.h .isin (.int x) (.list (ns.map .int)) = inP false (.int x) (.list (ns.map .int)) from rfl]
  show (if flatP (.int x) = true ∧ (ns.map PyData.int).all flatP = true then inB false (inV (toV (.int x)) ((ns.map PyData.int).map toV)) else _) = _
  rw [if_pos ⟨rfl, flat_intsL ns⟩, toV_ints]
  show Res.ok (FV.d (.bool (inV (.int x) _))) = _
  rw [inV_ints]
@[simp] theorem cop_notin_ints (x : Int) (ns : List Int) : Cop.h .notin (.int x) (.list (ns.map .int)) = .ok (.d (.bool (!decide (x ∈ ns)))) := by
  rw [show Cop.h .notin (.int x) (.list (ns.map .int)) = inP true (.int x) (.list (ns.map .int)) from rfl]
  show (if flatP (.int x) = true ∧ (ns.map PyData.int).all flatP = true then inB true (inV (toV (.int x)) ((ns.map PyData.int).map toV)) else _) = _
  rw [if_pos ⟨rfl, flat_intsL ns⟩, toV_ints]
  show Res.ok (FV.d (.bool (!inV (.int x) _))) = _
  rw [inV_ints]
@[simp] theorem cop_notin_tints (x : Int) (ns : List Int) : Cop.h .notin (.int x) (.tuple (ns.map .int)) = .ok (.d (.bool (!decide (x ∈ ns)))) := by
  rw [show Cop.h .notin (.int x) (.tuple (ns.map .int)) = inP true (.int x) (.tuple (ns.map .int)) from rfl]
  show (if flatP (.int x) = true ∧ (ns.map PyData.int).all flatP = true then inB true (inV (toV (.int x)) ((ns.map PyData.int).map toV)) else _) = _
  rw [if_pos ⟨rfl, flat_intsL ns⟩, toV_ints]
  show Res.ok (FV.d (.bool (!inV (.int x) _))) = _
  rw [inV_ints]
def bOf : FV → Res Bool
  | .d (.bool b) => .ok b
  | _ => .bad
@[simp] theorem bOf_b (b : Bool) : bOf (.d (.bool b)) = .ok b := rfl
@[simp] theorem toT_ap (f : FP) (e : Env) : toT f e = (f e).bind bOf := by
  exact bind_congr _ fun x => by
    cases x with
    | d p => cases p <;> rfl
    | _ => rfl
@[simp] theorem vAndT_ap (f g : FT) (e : Env) : vAndT f g e = (f e).bind fun b => if b = true then g e else .ok false := rfl
@[simp] theorem vOrT_ap (f g : FT) (e : Env) : vOrT f g e = (f e).bind fun b => if b = true then .ok true else g e := rfl
@[simp] theorem vNotT_ap (f : FT) (e : Env) : vNotT f e = (f e).bind fun b => .ok (!b) := rfl
@[simp] theorem bB_b {α : Type} (k : Bool → Res α) (b : Bool) : bB k (.d (.bool b)) = k b := rfl
@[simp] theorem vAnd_ap (f g : FP) (e : Env) : vAnd f g e = (f e).bind (bB fun b => if b = true then g e else .ok (.d (.bool false))) := rfl
@[simp] theorem vOr_ap (f g : FP) (e : Env) : vOr f g e = (f e).bind (bB fun b => if b = true then .ok (.d (.bool true)) else g e) := rfl
@[simp] theorem vNot_ap (f : FP) (e : Env) : vNot f e = (f e).bind (bB fun b => .ok (.d (.bool (!b)))) := rfl
@[simp] theorem vIf_ap {α : Type} (t : FT) (f g : Env → Res α) (e : Env) : vIf t f g e = (t e).bind fun b => if b = true then f e else g e := rfl
@[simp] theorem iB_ap (b : Bool) : iB b = .ok (.d (.bool b)) := rfl
@[simp] theorem iI_ap (b : Int) : iI b = .ok (.d (.int b)) := rfl
def chB (k : Res FV) : FV → Res FV
  | .d (.bool true) => k
  | .d (.bool false) => .ok (.d (.bool false))
  | _ => .bad
@[simp] theorem chB_b (k : Res FV) (b : Bool) : chB k (.d (.bool b)) = if b = true then k else .ok (.d (.bool false)) := by cases b <;> rfl
@[simp] theorem vChain_ap (c c' : Cop) (f g h : FD) (e : Env) : vChain c c' f g h e = (f e).bind fun x => (g e).bind fun y => (c.h x y).bind (chB ((h e).bind fun z => c'.h y z)) := by
  exact bind_congr _ fun x => bind_congr _ fun y => bind_congr _ fun z => by
    cases z with
    | d p => cases p with
      | bool b => cases b <;> rfl
      | _ => rfl
    | _ => rfl
@[simp] theorem isN_none : isN .none = true := rfl
@[simp] theorem isN_int (i : Int) : isN (.int i) = false := rfl
@[simp] theorem isN_str (i : Str) : isN (.str i) = false := rfl
@[simp] theorem isN_list (i : List PyData) : isN (.list i) = false := rfl
@[simp] theorem isN_tuple (i : List PyData) : isN (.tuple i) = false := rfl
@[simp] theorem isN_bool (i : Bool) : isN (.bool i) = false := rfl
@[simp] theorem isI_int (i : Int) : isI .int (.int i) = true := rfl
@[simp] theorem isI_intB (i : Int) : isI .bool (.int i) = false := rfl
@[simp] theorem isI_intL (i : Int) : isI .list (.int i) = false := rfl
@[simp] theorem isI_intT (i : Int) : isI .tuple (.int i) = false := rfl
@[simp] theorem isI_listL (i : List PyData) : isI .list (.list i) = true := rfl
@[simp] theorem isI_listT (i : List PyData) : isI .tuple (.list i) = false := rfl
@[simp] theorem isI_listI (i : List PyData) : isI .int (.list i) = false := rfl
@[simp] theorem isI_tupL (i : List PyData) : isI .list (.tuple i) = false := rfl
@[simp] theorem isI_tupT (i : List PyData) : isI .tuple (.tuple i) = true := rfl
@[simp] theorem isI_noneL : isI .list .none = false := rfl
@[simp] theorem isI_noneT : isI .tuple .none = false := rfl
@[simp] theorem isI_noneI : isI .int .none = false := rfl
@[simp] theorem vFld_ap (cn n : Str) (f : FP) (e : Env) : vFld cn n f e = (f e).bind (fldP cn n) := rfl
def oP : Option PyData → Res FV
  | some d => .ok (.d d)
  | none => .bad
@[simp] theorem oP_some (d : PyData) : oP (some d) = .ok (.d d) := rfl
@[simp] theorem ixP_l (ds : List PyData) (i : Int) : ixP (.list ds) (.int i) = oP (atI ds i) := rfl
@[simp] theorem ixP_t (ds : List PyData) (i : Int) : ixP (.tuple ds) (.int i) = oP (atI ds i) := rfl
def oI : Option Int → Res FV
  | some d => .ok (.d (.int d))
  | none => .bad
theorem atI_pos {α : Type} {xs : List α} {i : Int} (h0 : 0 ≤ i) : atI xs i = xs[i.toNat]? := by
  unfold L2.atI L2.ixN
  rw [if_pos h0]
  by_cases h : i < xs.length
  · rw [if_pos h]; rfl
  · rw [if_neg h]
    show none = _
    rw [List.getElem?_eq_none (by omega)]
@[simp] theorem vNil_ap (e : Env) : vNil e = .ok [] := rfl
@[simp] theorem vCons_ap (f : FD) (g : Env → Res (List PyData)) (e : Env) : vCons f g e = (f e).bind fun x => (g e).bind fun xs => .ok (x :: xs) := rfl
@[simp] theorem vLst_ap (g : Env → Res (List PyData)) (e : Env) : vLst g e = (g e).bind fun xs => cIf (xs.length ≤ 16777216) (.ok (SV.dl xs)) .bad := rfl
@[simp] theorem vTup_ap (g : Env → Res (List PyData)) (e : Env) : vTup g e = (g e).bind fun xs => cIf (xs.length ≤ 16777216) (.ok (.d (.tuple xs))) .bad := rfl
@[simp] theorem aN_ap (e : Env) : aN e = .ok [] := rfl
@[simp] theorem aC_ap (f : FP) (g : Env → Res (List FV)) (e : Env) : aC f g e = (f e).bind fun x => (g e).bind fun xs => .ok (x :: xs) := rfl
@[simp] theorem lenP_l (ds : List PyData) : lenP (.list ds) = .ok (.d (.int ds.length)) := rfl
@[simp] theorem lenP_t (ds : List PyData) : lenP (.tuple ds) = .ok (.d (.int ds.length)) := rfl
@[simp] theorem listP_l (ds : List PyData) : listP (.list ds) = .ok (SV.dl ds) := rfl
@[simp] theorem listP_t (ds : List PyData) : listP (.tuple ds) = .ok (SV.dl ds) := rfl
@[simp] theorem sumP_ints (ns : List Int) : sumP (.list (ns.map .int)) = .ok (.d (.int ns.sum)) := by
  show (match intsOf (ns.map .int) with | some ns => iI ns.sum | none => .bad) = _
  rw [intsOf_map]; rfl
@[simp] theorem allP_bools (ns : List Bool) : allP (.list (ns.map .bool)) = .ok (.d (.bool (ns.all id))) := by
  show (match boolsOf (ns.map .bool) with | some ns => iB (ns.all id) | none => .bad) = _
  rw [boolsOf_map]; rfl
@[simp] theorem sortP_ints (ns : List Int) : sortP (.list (ns.map .int)) = .ok (SV.dl ((srtI ns).map .int)) := by
  show (match intsOf (ns.map .int) with | some ns => Res.ok (SV.dl ((srtI ns).map .int)) | none => .bad) = _
  rw [intsOf_map]
@[simp] theorem intP_i (i : Int) : intP (.int i) = .ok (.f (.d (.int i))) := rfl
@[simp] theorem intP_b (b : Bool) : intP (.bool b) = .ok (.f (.d (.int (if b then 1 else 0)))) := rfl
def run (S : Fn) (xs : List FV) : Res FV := (outR (S (xs.map vaF))).bind frF
@[simp] theorem vCall_fr (S : Fn) (fs : Env → Res (List FV)) (e : Env) : (vCall S fs e).bind frF = (fs e).bind (run S) := by
  unfold vCall run
  rw [bind_assoc]
def Flow.andThen (f : Flow) (g : ST) : Flow := match f with
  | .nx e => g e
  | r => r
@[simp] theorem andThen_nx (e : Env) (g : ST) : (Flow.nx e).andThen g = g e := rfl
@[simp] theorem andThen_rt (v : SV) (e : Env) (g : ST) : (Flow.rt v e).andThen g = .rt v e := rfl
@[simp] theorem andThen_err (c : Str) (e : Env) (g : ST) : (Flow.err c e).andThen g = .err c e := rfl
@[simp] theorem andThen_bad (g : ST) : (Flow.bad).andThen g = .bad := rfl
@[simp] theorem vSeq_ap (f g : ST) (e : Env) : vSeq f g e = (f e).andThen g := by
  unfold vSeq Flow.andThen
  cases f e <;> rfl
@[simp] theorem vSkip_ap (e : Env) : vSkip e = .nx e := rfl
@[simp] theorem ofR_ok {α : Type} (a : α) (e : Env) (k : α → Flow) : ofR (.ok a) e k = k a := rfl
@[simp] theorem ofR_err {α : Type} (c : Str) (e : Env) (k : α → Flow) : ofR (.err c : Res α) e k = .err c e := rfl
@[simp] theorem ofR_bad {α : Type} (e : Env) (k : α → Flow) : ofR (.bad : Res α) e k = .bad := rfl
def free : Slot → Bool
  | .rf _ => false
  | _ => true
@[simp] theorem free_no : free .no = true := id rfl
@[simp] theorem free_va (s : SV) : free (.va s) = true := id rfl
@[simp] theorem free_vw (s : SV) : free (.vw s) = true := id rfl
theorem setS_ap {e : Env} {i : Nat} {s t : Slot} (h : e[i]? = some t) (f : free t = true) : setS e i s = .nx (e.set i s) := by
  unfold setS
  have : canSet e i = true := by
    unfold canSet
    rw [h]
    cases t <;> first | rfl | cases f
  rw [if_pos this]
@[simp] theorem setS_0 (t : Slot) (r : Env) (s : Slot) (f : free t = true) : setS (t :: r) 0 s = .nx (s :: r) := setS_ap (t := t) rfl f
@[simp] theorem setS_1 (a t : Slot) (r : Env) (s : Slot) (f : free t = true) : setS (a :: t :: r) 1 s = .nx (a :: s :: r) := setS_ap (t := t) rfl f
@[simp] theorem setS_2 (a b t : Slot) (r : Env) (s : Slot) (f : free t = true) : setS (a :: b :: t :: r) 2 s = .nx (a :: b :: s :: r) := setS_ap (t := t) rfl f
@[simp] theorem setS_n (i : Nat) (a b c : Slot) (r : Env) (s : Slot) (f : ((r[i]?).map free) = some true) : setS (a :: b :: c :: r) (i + 3) s = .nx (a :: b :: c :: r.set i s) := by
  cases z : r[i]? with
  | none => rw [z] at f; cases f
  | some t =>
    rw [z] at f
    exact setS_ap (t := t) (by simpa using z) (Option.some.inj f)
@[simp] theorem vSet_ap (i : Nat) (f : FP) (e : Env) : vSet i f e = ofR (f e) e fun x => setS e i (.va (.f x)) := rfl
@[simp] theorem vSetO_ap (i : Nat) (f : FO) (e : Env) : vSetO i f e = ofR (f e) e fun x => setS e i (.va x) := rfl
@[simp] theorem vIfS_ap (t : FT) (f g : ST) (e : Env) : vIfS t f g e = ofR (t e) e fun b => if b = true then f e else g e := rfl
@[simp] theorem vRaise_ap (c : Str) (e : Env) : vRaise c e = .err c e := rfl
@[simp] theorem vRetN_ap (e : Env) : vRetN e = .rt (.f (.d .none)) e := rfl
@[simp] theorem vRetP_ap (f : FP) (e : Env) : vRetP f e = ofR (f e) e fun x => .rt (.f x) e := rfl
@[simp] theorem vRet_ap (f : FO) (e : Env) : vRet f e = ofR (f e) e fun x => .rt x e := rfl
def fin : Flow → Res FV
  | .rt s _ => frF s
  | .nx _ => .ok (.d .none)
  | .err c _ => .err c
  | .bad => .bad
@[simp] theorem fin_rt (s : SV) (e : Env) : fin (.rt s e) = frF s := rfl
@[simp] theorem fin_nx (e : Env) : fin (.nx e) = .ok (.d .none) := rfl
@[simp] theorem fin_err (c : Str) (e : Env) : fin (.err c e) = .err c := rfl
@[simp] theorem fin_ret (r : Res SV) (e : Env) : fin (ofR r e fun s => .rt s e) = r.bind frF := by cases r <;> rfl
theorem run_mk (nl : Nat) (body : ST) (xs : List FV) : run (mkFn nl body) xs = fin (body (xs.map vaF ++ List.replicate nl .no)) := by
  unfold run mkFn
  cases body (xs.map vaF ++ List.replicate nl .no) <;> rfl
@[simp] theorem vaF_eq (x : FV) : vaF x = .va (.f x) := rfl
@[simp] theorem vItL_ap (f : FD) (e : Env) : vItL f e = (f e).bind asL := rfl
@[simp] theorem asL_l (ds : List PyData) : asL (.list ds) = .ok ds := rfl
@[simp] theorem vItRev_ap (f : FD) (e : Env) : vItRev f e = (f e).bind fun x => (asL x).bind fun ds => .ok ds.reverse := rfl
@[simp] theorem vItEnum_ap (f : FD) (e : Env) : vItEnum f e = (f e).bind fun x => (asL x).bind fun ds => .ok (enumP 0 ds) := rfl
@[simp] theorem vItZip_ap (f g : FD) (e : Env) : vItZip f g e = (f e).bind fun x => (g e).bind fun y => (asL x).bind fun ds => (asL y).bind fun es => .ok (zipP ds es) := rfl
@[simp] theorem rng1_ap (j : Int) : rng1 (.int j) = cIf (-4611686018427387904 ≤ j ∧ j < 4611686018427387904) (.ok (rngP 0 j.toNat)) .bad := rfl
@[simp] theorem rng2_ap (i j : Int) : rng2 (.int i) (.int j) = cIf (-4611686018427387904 ≤ i ∧ i < 4611686018427387904 ∧ -4611686018427387904 ≤ j ∧ j < 4611686018427387904) (.ok (rngP i (j - i).toNat)) .bad := rfl
@[simp] theorem lrg2_ap (i j : Int) : lrg2 (.int i) (.int j) = cIf (0 ≤ i ∧ i ≤ 16777216 ∧ 0 ≤ j ∧ j ≤ 16777216) (.ok (SV.dl (rngP i (j - i).toNat))) .bad := rfl
@[simp] theorem vFor_ap (it : IT) (g : Tgt) (b : ST) (e : Env) : vFor it g b e = ofR (it e) e fun items => forL g b items e := rfl
@[simp] theorem forL_nil (g : Tgt) (b : ST) (e : Env) : forL g b [] e = .nx e := rfl
def tgt (g : Tgt) (x : PyData) (e : Env) (k : Env → Flow) : Flow := match g x e with
  | some e1 => k e1
  | none => .bad
theorem forL_cons (g : Tgt) (b : ST) (x : PyData) (xs : List PyData) (e : Env) : forL g b (x :: xs) e = tgt g x e fun e1 => (b e1).andThen (forL g b xs) := by
  show (match g x e with | some e1 => (match b e1 with | .nx e2 => forL g b xs e2 | r => r) | none => .bad) = _
  unfold tgt
  cases g x e with
  | none => rfl
  | some e1 =>
    dsimp only
    unfold Flow.andThen
    cases b e1 <;> rfl
theorem tgt_some {g : Tgt} {x : PyData} {e e1 : Env} {k : Env → Flow} (h : g x e = some e1) : tgt g x e k = k e1 := by unfold tgt; rw [h]
theorem gN_ap {i : Nat} {x : PyData} {e : Env} {t : Slot} (h : e[i]? = some t) (f : free t = true) : gN i x e = some (e.set i (.va (.f (.d x)))) := by
  unfold gN
  have : canSet e i = true := by
    unfold canSet
    rw [h]
    cases t <;> first | rfl | cases f
  rw [if_pos this]
@[simp] theorem gN_0 (x : PyData) (t : Slot) (r : Env) (f : free t = true) : gN 0 x (t :: r) = some (.va (.f (.d x)) :: r) := gN_ap (t := t) rfl f
@[simp] theorem gN_1 (x : PyData) (a t : Slot) (r : Env) (f : free t = true) : gN 1 x (a :: t :: r) = some (a :: .va (.f (.d x)) :: r) := gN_ap (t := t) rfl f
@[simp] theorem gN_2 (x : PyData) (a b t : Slot) (r : Env) (f : free t = true) : gN 2 x (a :: b :: t :: r) = some (a :: b :: .va (.f (.d x)) :: r) := gN_ap (t := t) rfl f
@[simp] theorem gN_n (i : Nat) (x : PyData) (a b c : Slot) (r : Env) (f : ((r[i]?).map free) = some true) : gN (i + 3) x (a :: b :: c :: r) = some (a :: b :: c :: r.set i (.va (.f (.d x)))) := by
  cases z : r[i]? with
  | none => rw [z] at f; cases f
  | some t =>
    rw [z] at f
    exact gN_ap (t := t) (by simpa using z) (Option.some.inj f)
@[simp] theorem gsN_ap (e : Env) : gsN [] e = some e := rfl
@[simp] theorem gsC_ap (g : Tgt) (r : Tgts) (x : PyData) (xs : List PyData) (e : Env) : gsC g r (x :: xs) e = (g x e).bind (r xs) := rfl
@[simp] theorem gT_ap (n : Nat) (g : Tgts) (ds : List PyData) (e : Env) : gT n g (.tuple ds) e = if ds.length = n then g ds e else none := rfl
@[simp] theorem wipeE_nil (e : Env) : wipeE e [] = e := rfl
@[simp] theorem wipeE_cons (e : Env) (v : Nat) (vs : List Nat) : wipeE e (v :: vs) = (wipeE e vs).set v .no := rfl
@[simp] theorem vYes_ap (e : Env) : vYes e = .ok true := rfl
@[simp] theorem noE_ok' {α : Type} (a : α) : noE (.ok a) = .ok a := rfl
theorem vComp_ap (it : IT) (g : Tgt) (t : FT) (elt : FO) (vs : List Nat) (e : Env) : vComp it g t elt vs e = (it e).bind fun items => cIf (items.length ≤ 16777216) ((compL g t elt (wipeE e vs) items).bind fun ys => .ok (.own ys)) .bad := rfl
def turnC (g : Tgt) (t : FT) (elt : FO) (e : Env) (x : PyData) : Res (Option SV) := match g x e with
  | none => .bad
  | some e1 => (t e1).bind fun b => if b = true then (elt e1).bind fun y => .ok (some y) else .ok none
theorem compL_ap {g : Tgt} {t : FT} {elt : FO} {e : Env} {F : PyData → Option PyData} : ∀ {items : List PyData}, (∀ x ∈ items, ∃ o : Option SV, turnC g t elt e x = .ok o ∧ (o.map SV.frz) = (F x).map some) → ∃ ys, compL g t elt e items = .ok ys ∧ SV.frzs ys = some (items.filterMap F)
  | [], _ => ⟨[], rfl, rfl⟩
  | x :: items, h => by
    obtain ⟨ys, h1, h2⟩ := compL_ap (items := items) fun y m => h y (List.mem_cons_of_mem _ m)
    obtain ⟨o, k1, k2⟩ := h x List.mem_cons_self
    unfold turnC at k1
    show ∃ ys, (match g x e with | none => Res.bad | some e1 => (noE (t e1)).bind fun b => if b = true then (noE (elt e1)).bind fun y => (compL g t elt e items).bind fun ys => .ok (y :: ys) else compL g t elt e items) = .ok ys ∧ _
    cases z : g x e with
    | none => rw [z] at k1; cases k1
    | some e1 =>
      rw [z] at k1
      dsimp only at k1 ⊢
      cases zt : t e1 with
      | err c => rw [zt] at k1; cases k1
      | bad => rw [zt] at k1; cases k1
      | ok b =>
        rw [zt] at k1
        rw [noE_ok', bind_ok]
        rw [bind_ok] at k1
        cases b with
        | false =>
          rw [if_neg Bool.false_ne_true] at k1 ⊢
          cases k1
          refine ⟨ys, h1, ?_⟩
          cases zF : F x with
          | none => rw [h2, List.filterMap_cons_none zF]
          | some y => rw [zF] at k2; cases k2
        | true =>
          rw [if_pos rfl] at k1 ⊢
          cases ze : elt e1 with
          | err c => rw [ze] at k1; cases k1
          | bad => rw [ze] at k1; cases k1
          | ok y =>
            rw [ze, bind_ok] at k1
            cases k1
            rw [noE_ok', bind_ok, h1, bind_ok]
            refine ⟨y :: ys, rfl, ?_⟩
            cases zF : F x with
            | none => rw [zF] at k2; cases k2
            | some p =>
              rw [zF] at k2
              have k3 : SV.frz y = some p := Option.some.inj k2
              rw [List.filterMap_cons_some zF]
              show (match SV.frz y, SV.frzs ys with | some p, some ps => some (p :: ps) | _, _ => none) = _
              rw [k3, h2]
theorem comp_fr {it : IT} {g : Tgt} {t : FT} {elt : FO} {vs : List Nat} {e : Env} {items : List PyData} (F : PyData → Option PyData) (hi : it e = .ok items) (hl : items.length ≤ 16777216)
    (h : ∀ x ∈ items, ∃ o : Option SV, turnC g t elt (wipeE e vs) x = .ok o ∧ (o.map SV.frz) = (F x).map some) : (vComp it g t elt vs e).bind frF = .ok (.d (.list (items.filterMap F))) := by
  obtain ⟨ys, h1, h2⟩ := compL_ap h
  rw [vComp_ap, hi, bind_ok, cIf_pos hl, h1, bind_ok, bind_ok]
  unfold frF
  show (match (SV.frzs ys).map (fun ps => FV.d (.list ps)) with | some x => Res.ok x | none => .bad) = _
  rw [h2]
  rfl
theorem frz_of_frF {s : SV} {p : PyData} (h : frF s = .ok (.d p)) : SV.frz s = some p := by
  have k := frz_frF s
  rw [h] at k
  cases z : s.frz with
  | none => rw [z] at k; cases k
  | some q => rw [z] at k; cases k; rfl
theorem comp_map {it : IT} {g : Tgt} {elt : FO} {vs : List Nat} {e : Env} {items : List PyData} (F : PyData → PyData) (hi : it e = .ok items) (hl : items.length ≤ 16777216)
    (h : ∀ x ∈ items, ∃ e1, g x (wipeE e vs) = some e1 ∧ (elt e1).bind frF = .ok (.d (F x))) : (vComp it g vYes elt vs e).bind frF = .ok (.d (.list (items.map F))) := by
  rw [comp_fr (fun x => some (F x)) hi hl fun x m => ?_]
  · rw [List.filterMap_eq_map']
  · obtain ⟨e1, h1, h2⟩ := h x m
    cases z : elt e1 with
    | err c => rw [z] at h2; cases h2
    | bad => rw [z] at h2; cases h2
    | ok s =>
      rw [z] at h2
      refine ⟨some s, ?_, ?_⟩
      · unfold turnC
        rw [h1]
        dsimp only
        rw [vYes_ap, bind_ok, if_pos rfl, z, bind_ok]
      · rw [Option.map_some, Option.map_some, frz_of_frF h2]

@[simp] theorem ite_andThen (c : Prop) [Decidable c] (a b : Flow) (g : ST) : (if c then a else b).andThen g = if c then a.andThen g else b.andThen g := by split <;> rfl
@[simp] theorem ite_bind {α β : Type} (c : Prop) [Decidable c] (a b : Res α) (k : α → Res β) : (if c then a else b).bind k = if c then a.bind k else b.bind k := by split <;> rfl
@[simp] theorem ite_ofR {α : Type} (c : Prop) [Decidable c] (a b : Res α) (e : Env) (k : α → Flow) : ofR (if c then a else b) e k = if c then ofR a e k else ofR b e k := by split <;> rfl
@[simp] theorem fin_ite (c : Prop) [Decidable c] (a b : Flow) : fin (if c then a else b) = if c then fin a else fin b := by split <;> rfl
def ixS1 (ns : List Int) : PyData → Res FV
  | .int i => oI (atI ns i)
  | _ => .bad
@[simp] theorem ixS1_sc (ns : List Int) (i : Int) : ixS1 ns (.int i) = oI (atI ns i) := rfl
def ixS2 (r : Res PyData) : FV → Res FV
  | .sc ns => r.bind (ixS1 ns)
  | _ => .bad
@[simp] theorem ixS2_sc (r : Res PyData) (ns : List Int) : ixS2 r (.sc ns) = r.bind (ixS1 ns) := rfl
@[simp] theorem ixS_ap (f : FP) (g : FD) (e : Env) : ixS f g e = (f e).bind (ixS2 (g e)) := by
  unfold ixS
  refine bind_congr _ fun x => ?_
  cases x with
  | sc ns =>
    refine bind_congr _ fun y => ?_
    cases y with
    | int i =>
      show (match atI ns i with | some d => iI d | none => .bad) = oI (atI ns i)
      cases atI ns i <;> rfl
    | _ => rfl
  | _ => rfl
@[simp] theorem oI_some (i : Int) : oI (some i) = .ok (.d (.int i)) := rfl
def lenS1 : FV → Res FV
  | .sc ns => .ok (.d (.int ns.length))
  | _ => .bad
@[simp] theorem lenS1_sc (ns : List Int) : lenS1 (.sc ns) = .ok (.d (.int ns.length)) := rfl
@[simp] theorem vLenS_ap (f : FP) (e : Env) : vLenS f e = (f e).bind lenS1 := by
  unfold vLenS
  exact bind_congr _ fun x => by cases x <;> rfl
@[simp] theorem nth_0 {α : Type} (a : α) (r : List α) : (a :: r)[0]? = some a := rfl
@[simp] theorem nth_s {α : Type} (a : α) (r : List α) (i : Nat) : (a :: r)[i + 1]? = r[i]? := rfl
def tbl (p h f : Int) : FV := .ob "Table" [("prime", .int p), ("hands", .int h), ("few", .int f)]
@[simp] theorem tbl_p (p h f : Int) : fldP "Table" "prime" (tbl p h f) = .ok (.d (.int p)) := by rfl
@[simp] theorem tbl_h (p h f : Int) : fldP "Table" "hands" (tbl p h f) = .ok (.d (.int h)) := by rfl
@[simp] theorem tbl_f (p h f : Int) : fldP "Table" "few" (tbl p h f) = .ok (.d (.int f)) := by rfl
end VL

set_option Elab.async false
set_option linter.all false
set_option maxRecDepth 100000
set_option maxHeartbeats 4000000
namespace VL
open PySem PySem.Spec PyProof.Rows L2
def rdS : Option Slot → Option SV
  | some (.va s) => some s
  | some (.rf s) => some s
  | some (.vw s) => some s
  | _ => none
@[simp] theorem rdS_va (s : SV) : rdS (some (.va s)) = some s := rfl
@[simp] theorem rdS_rf (s : SV) : rdS (some (.rf s)) = some s := rfl
@[simp] theorem rdS_vw (s : SV) : rdS (some (.vw s)) = some s := rfl
@[simp] theorem rd_ap (e : Env) (i : Nat) : rd e i = rdS e[i]? := by
  unfold rd rdS
  rfl
def plO (i : Nat) : Option SV → Res Plc
  | some s => .ok (i, [], s)
  | none => .bad
@[simp] theorem plO_some (i : Nat) (s : SV) : plO i (some s) = .ok (i, [], s) := rfl
@[simp] theorem plN_ap (i : Nat) (e : Env) : plN i e = plO i (rd e i) := by
  unfold plN plO
  rfl
@[simp] theorem plX_ap (f : Env → Res Plc) (g : FD) (e : Env) : plX f g e = (f e).bind fun x => (g e).bind (plX1 x) := rfl
@[simp] theorem plF_ap (cn n : Str) (f : Env → Res Plc) (e : Env) : plF cn n f e = (f e).bind (plS (.fld cn n)) := rfl
@[simp] theorem plP_ap (f : Env → Res Plc) (e : Env) : plP f e = (f e).bind plP1 := rfl
@[simp] theorem plD_ap (f : Env → Res Plc) (e : Env) : plD f e = (f e).bind fun x => ldS x.2.2 := rfl
@[simp] theorem plL_ap (f : Env → Res Plc) (e : Env) : plL f e = (f e).bind plL1 := rfl
@[simp] theorem plX1_int (x : Plc) (k : Int) : plX1 x (.int k) = plS (.ix k) x := rfl
@[simp] theorem plP1_f (i : Nat) (ps : List Pst) (x : FV) : plP1 (i, ps, .f x) = .ok x := rfl
@[simp] theorem plL1_own (i : Nat) (ps : List Pst) (xs : List SV) : plL1 (i, ps, .own xs) = .ok (.d (.int xs.length)) := rfl
@[simp] theorem plL1_dl (i : Nat) (ps : List Pst) (ds : List PyData) : plL1 (i, ps, SV.dl ds) = .ok (.d (.int ds.length)) := by
  show Res.ok (FV.d (.int ((ds.map fun p => SV.f (.d p)).length : Nat))) = _
  rw [List.length_map]
theorem plS_dl (i : Nat) (ps : List Pst) (ds : List PyData) (k : Int) (p : PyData) (h : atI ds k = some p) : plS (.ix k) (i, ps, SV.dl ds) = .ok (i, ps ++ [.ix k], .f (.d p)) := by
  unfold plS
  show (match atI (ds.map fun p => SV.f (.d p)) k with | some t => Res.ok (i, ps ++ [Pst.ix k], t) | none => .bad) = _
  rw [atI_map, h]
  rfl
def SV.dll (qs : List (List PyData)) : SV := .own (qs.map SV.dl)
theorem frzs_dll (qs : List (List PyData)) : SV.frzs (qs.map SV.dl) = some (qs.map .list) := by
  induction qs with
  | nil => rfl
  | cons q qs ih =>
    show (match SV.frz (SV.dl q), SV.frzs (qs.map SV.dl) with | some p, some ps => some (p :: ps) | _, _ => none) = _
    rw [frz_dl, ih]
    rfl
@[simp] theorem frF_dll (qs : List (List PyData)) : frF (SV.dll qs) = .ok (.d (.list (qs.map .list))) := by
  unfold frF
  show (match (SV.frzs (qs.map SV.dl)).map (fun ps => FV.d (.list ps)) with | some x => Res.ok x | none => .bad) = _
  rw [frzs_dll]
  rfl
theorem plS_dll (i : Nat) (ps : List Pst) (qs : List (List PyData)) (k : Int) (q : List PyData) (h : atI qs k = some q) : plS (.ix k) (i, ps, SV.dll qs) = .ok (i, ps ++ [.ix k], SV.dl q) := by
  unfold plS
  show (match atI (qs.map SV.dl) k with | some t => Res.ok (i, ps ++ [Pst.ix k], t) | none => .bad) = _
  rw [atI_map, h]
  rfl
@[simp] theorem lstP_own (i : Nat) (ps : List Pst) (xs : List SV) : lstP (i, ps, .own xs) = .ok (i, ps, .own xs) := rfl
@[simp] theorem lstP_dl (i : Nat) (ps : List Pst) (ds : List PyData) : lstP (i, ps, SV.dl ds) = .ok (i, ps, SV.dl ds) := rfl
@[simp] theorem lstP_dll (i : Nat) (ps : List Pst) (ds : List (List PyData)) : lstP (i, ps, SV.dll ds) = .ok (i, ps, SV.dll ds) := rfl
@[simp] theorem dv_va (s : SV) : dv (.va s) = .va s := rfl
@[simp] theorem dv_rf (s : SV) : dv (.rf s) = .rf s := rfl
@[simp] theorem dv_vw (s : SV) : dv (.vw s) = .no := rfl
@[simp] theorem dv_no : dv .no = .no := rfl
@[simp] theorem free_dv (s : Slot) : free (dv s) = free s := by cases s <;> rfl
theorem tree_va {e : Env} {i : Nat} {s : SV} (h : e[i]? = some (.va s)) : tree e i = some (.va, s) := by unfold tree; rw [h]
theorem tree_rf {e : Env} {i : Nat} {s : SV} (h : e[i]? = some (.rf s)) : tree e i = some (.rf, s) := by unfold tree; rw [h]
@[simp] theorem vSetI_ap (f : Env → Res Plc) (g : FD) (h : FO) (e : Env) : vSetI f g h e = ofR (h e) e fun s => ofR ((f e).bind lstP) e fun x => ofR (g e) e fun k => setI1 e x s k := rfl
@[simp] theorem setI_dl {e : Env} {i : Nat} {ds : List PyData} {k : Int} {p : PyData} (h : e[i]? = some (.va (SV.dl ds))) (h0 : 0 ≤ k) (h1 : k < ds.length) : setI1 e (i, [], SV.dl ds) (.f (.d p)) (.int k) = .nx ((e.map dv).set i (.va (SV.dl (ds.set k.toNat p)))) := by
  show (match ixN (ds.map fun p => SV.f (.d p)).length k with | some j => (match putP e (i, [], SV.dl ds) ((ds.map fun p => SV.f (.d p)).set j (.f (.d p))) with | some e => Flow.nx e | none => .bad) | none => .bad) = _
  have hx : ixN (ds.map fun p => SV.f (.d p)).length k = some k.toNat := by
    unfold ixN
    rw [if_pos h0, if_pos (by rw [List.length_map]; exact h1)]
  rw [hx]
  dsimp only
  unfold putP
  rw [tree_va h]
  show Flow.nx ((e.map dv).set i (.va (.own ((ds.map fun p => SV.f (.d p)).set k.toNat (.f (.d p)))))) = _
  rw [show (ds.map fun p => SV.f (.d p)).set k.toNat (.f (.d p)) = (ds.set k.toNat p).map fun p => SV.f (.d p) from (List.map_set ..).symm]
  rfl
@[simp] theorem obind_ok {α β : Type} (a : α) (e : Env) (k : α → Env → Out β) : (Out.ok a e).bind k = k a e := rfl
@[simp] theorem obind_err {α β : Type} (c : Str) (k : α → Env → Out β) : (Out.err c : Out α).bind k = .err c := rfl
@[simp] theorem oR_ok {α β : Type} (a : α) (k : α → Out β) : oR (.ok a) k = k a := rfl
@[simp] theorem oR_err {α β : Type} (c : Str) (k : α → Out β) : oR (.err c : Res α) k = .err c := rfl
@[simp] theorem ofO_ok {α : Type} (a : α) (e env : Env) (k : α → Env → Flow) : ofO (.ok a e) env k = k a e := rfl
@[simp] theorem ofO_err {α : Type} (c : Str) (env : Env) (k : α → Env → Flow) : ofO (.err c : Out α) env k = .err c (env.map keepF) := rfl
@[simp] theorem vEx_ap (f : FE) (e : Env) : vEx f e = ofO (f e) e fun _ e => .nx e := rfl
@[simp] theorem vSetE_ap (i : Nat) (f : FE) (e : Env) : vSetE i f e = ofO (f e) e fun s e => setS e i (.va s) := rfl
@[simp] theorem vRetE_ap (f : FE) (e : Env) : vRetE f e = ofO (f e) e fun s e => .rt s e := rfl
@[simp] theorem eO_ap (f : FO) (e : Env) : eO f e = oR (f e) fun s => .ok s e := rfl
@[simp] theorem vApp_ap (f : Env → Res Plc) (g : FO) (e : Env) : vApp f g e = oR ((f e).bind lstP) fun x => oR (g e) fun s => vApp1 e x s := rfl
@[simp] theorem app_dl {e : Env} {i : Nat} {ds : List PyData} {p : PyData} (h : e[i]? = some (.va (SV.dl ds))) (hl : ds.length < 16777216) : vApp1 e (i, [], SV.dl ds) (.f (.d p)) = .ok (.f (.d .none)) ((e.map dv).set i (.va (SV.dl (ds ++ [p])))) := by
  show cIf ((ds.map fun p => SV.f (.d p)).length < 16777216) (oE (.f (.d .none)) (putP e (i, [], SV.dl ds) ((ds.map fun p => SV.f (.d p)) ++ [.f (.d p)]))) .bad = _
  rw [cIf_pos (by rw [List.length_map]; exact hl)]
  unfold putP
  rw [tree_va h]
  show Out.ok (SV.f (.d .none)) ((e.map dv).set i (.va (.own ((ds.map fun p => SV.f (.d p)) ++ [.f (.d p)])))) = _
  rw [show (ds.map fun p => SV.f (.d p)) ++ [SV.f (.d p)] = (ds ++ [p]).map fun p => SV.f (.d p) by rw [List.map_append]; rfl]
  rfl
@[simp] theorem app_dll {e : Env} {i : Nat} {ds : List (List PyData)} {p : List PyData} (h : e[i]? = some (.va (SV.dll ds))) (hl : ds.length < 16777216) : vApp1 e (i, [], SV.dll ds) (SV.dl p) = .ok (.f (.d .none)) ((e.map dv).set i (.va (SV.dll (ds ++ [p])))) := by
  show cIf ((ds.map SV.dl).length < 16777216) (oE (.f (.d .none)) (putP e (i, [], SV.dll ds) ((ds.map SV.dl) ++ [SV.dl p]))) .bad = _
  rw [cIf_pos (by rw [List.length_map]; exact hl)]
  unfold putP
  rw [tree_va h]
  show Out.ok (SV.f (.d .none)) ((e.map dv).set i (.va (.own ((ds.map SV.dl) ++ [SV.dl p])))) = _
  rw [show (ds.map SV.dl) ++ [SV.dl p] = (ds ++ [p]).map SV.dl by rw [List.map_append]; rfl]
  rfl
def fzA (i : Nat) (e : Env) : Res FV → Flow
  | .ok x => .nx (e.set i (.va (.f x)))
  | _ => .bad
@[simp] theorem fzA_ok (i : Nat) (e : Env) (x : FV) : fzA i e (.ok x) = .nx (e.set i (.va (.f x))) := rfl
def fzB (i : Nat) (e : Env) : Option Slot → Flow
  | some (.va s) => fzA i e (frF s)
  | some (.rf s) => (match frF s with | .ok x => .nx (e.set i (.rf (.f x))) | _ => .bad)
  | _ => .bad
@[simp] theorem fzB_va (i : Nat) (e : Env) (s : SV) : fzB i e (some (.va s)) = fzA i e (frF s) := rfl
@[simp] theorem vFrz_ap (i : Nat) (e : Env) : vFrz i [] e = fzB i e e[i]? := by
  unfold vFrz frzE tree fzB fzA frF
  cases e[i]? with
  | none => rfl
  | some sl =>
    cases sl with
    | no => rfl
    | vw _ => rfl
    | va s => simp only [subS]; cases s.frz? <;> rfl
    | rf s => simp only [subS]; cases s.frz? <;> rfl
@[simp] theorem vRetV_va (i : Nat) (e : Env) (s : SV) (h : e[i]? = some (.va s)) : vRetV i e = .rt s (e.set i .no) := by
  unfold vRetV; rw [h]
@[simp] theorem vDrop_ap (f : FO) (e : Env) : vDrop f e = ofR (f e) e fun _ => .nx e := rfl
@[simp] theorem ret_andThen {α : Type} (r : Res α) (e e' : Env) (k : α → SV) (g : ST) : (ofR r e fun a => Flow.rt (k a) e').andThen g = ofR r e fun a => Flow.rt (k a) e' := by cases r <;> rfl
def partI : PyData → Res (Option Int)
  | .int i => .ok (some i)
  | _ => .bad
@[simp] theorem partI_int (i : Int) : partI (.int i) = .ok (some i) := rfl
@[simp] theorem vNoPart_ap (e : Env) : vNoPart e = .ok none := rfl
@[simp] theorem vPart_ap (f : FD) (e : Env) : vPart f e = (f e).bind partI := by
  unfold vPart
  exact bind_congr _ fun x => by cases x <;> rfl
@[simp] theorem vSl_ap (f : FD) (lo hi : FI) (e : Env) : vSl f lo hi e = (f e).bind fun x => (lo e).bind fun l => (hi e).bind fun h => slP x l h := rfl
@[simp] theorem slP_l (ds : List PyData) (lo hi : Option Int) : slP (.list ds) lo hi = .ok (SV.dl (cutP ds lo hi)) := rfl
@[simp] theorem slP_t (ds : List PyData) (lo hi : Option Int) : slP (.tuple ds) lo hi = .ok (.f (.d (.tuple (cutP ds lo hi)))) := rfl
theorem sIx_pos (n d : Nat) {k : Int} (h : 0 ≤ k) : HT.sIx n d (some k) = min k.toNat n := by
  have := HT.sIx_nat n d k.toNat
  rwa [show ((k.toNat : Nat) : Int) = k by omega] at this
theorem cut_from {α : Type} (xs : List α) {a : Int} (h : 0 ≤ a) : cutP xs (some a) none = xs.drop a.toNat := by
  unfold cutP
  rw [sIx_pos _ _ h, HT.sIx_none]
  by_cases q : a.toNat ≤ xs.length
  · rw [Nat.min_eq_left q, List.take_of_length_le (by rw [List.length_drop]; omega)]
  · rw [Nat.min_eq_right (by omega), List.drop_of_length_le (Nat.le_refl _), List.drop_of_length_le (by omega)]
    simp
theorem cut_to {α : Type} (xs : List α) {b : Int} (h : 0 ≤ b) : cutP xs none (some b) = xs.take b.toNat := by
  unfold cutP
  rw [sIx_pos _ _ h, HT.sIx_none, List.drop_zero, Nat.sub_zero]
  by_cases q : b.toNat ≤ xs.length
  · rw [Nat.min_eq_left q]
  · rw [Nat.min_eq_right (by omega), List.take_of_length_le (Nat.le_refl _), List.take_of_length_le (by omega)]
theorem cut_mid {α : Type} (xs : List α) {a b : Int} (h : 0 ≤ a) (h' : 0 ≤ b) (hb : b.toNat ≤ xs.length) : cutP xs (some a) (some b) = (xs.take b.toNat).drop a.toNat := by
  unfold cutP
  rw [sIx_pos _ _ h, sIx_pos _ _ h', Nat.min_eq_left hb]
  by_cases q : a.toNat ≤ xs.length
  · rw [Nat.min_eq_left q, List.drop_take]
  · rw [Nat.min_eq_right (by omega), List.drop_of_length_le (Nat.le_refl _), List.drop_of_length_le (by rw [List.length_take]; omega)]
    simp
end VL

set_option Elab.async false
set_option linter.all false
set_option maxRecDepth 100000
set_option maxHeartbeats 4000000
namespace VL
open PySem PySem.Spec PyProof.Rows L2

def cellAt (ns : List Int) (k : Int) : Int := ns.getD k.toNat 0
@[simp] theorem run_cell (ns : List Int) (k : Int) (hk : 0 ≤ k) : run S__law_cell_at [.sc ns, .d (.int k)] = .ok (.d (.int (cellAt ns k))) := by
  unfold S__law_cell_at B__law_cell_at
  rw [run_mk]
  simp
  unfold cellAt
  split
  · rename_i h
    rw [atI_pos hk, List.getElem?_eq_getElem (by omega)]
    simp [show k.toNat < ns.length by omega]
  · rename_i h
    simp [List.getD, List.getElem?_eq_none (show ns.length ≤ k.toNat by omega)]
def mixM (c : Int) (k : Int) (m : Int) : Int := (c % 2147483647 + 12345) * (48271 + 6 * k) % 1000000007 / 7 % m
theorem mixM_lt (c k : Int) {m : Int} (h : 0 < m) : 0 ≤ mixM c k m ∧ mixM c k m < m := ⟨Int.emod_nonneg _ (by omega), Int.emod_lt_of_pos _ h⟩
@[simp] theorem run_mix (c k m : Int) (hm : 0 < m) : run S__law_mix [.d (.int c), .d (.int k), .d (.int m)] = .ok (.d (.int (mixM c k m))) := by
  unfold S__law_mix B__law_mix
  rw [run_mk]
  simp (disch := first | rfl | assumption | omega | simp)
  rfl
theorem rngP_length (lo : Int) (n : Nat) : (rngP lo n).length = n := by unfold rngP; simp
theorem rngP_mem {lo : Int} {n : Nat} {x : PyData} (h : x ∈ rngP lo n) : ∃ i : Nat, i < n ∧ x = .int (lo + i) := by
  unfold rngP at h
  obtain ⟨i, m, rfl⟩ := List.mem_map.mp h
  exact ⟨i, List.mem_range.mp m, rfl⟩
def unI : PyData → Int
  | .int i => i
  | _ => 0
@[simp] theorem unI_int (i : Int) : unI (.int i) = i := rfl
@[simp] theorem run_whole_i (i : Int) : run S__law_whole [.d (.int i)] = .ok (.d (.bool true)) := by
  unfold S__law_whole B__law_whole
  rw [run_mk]
  simp
theorem zip_ints : ∀ a b : List Int, zipP (a.map .int) (b.map .int) = (a.zip b).map fun x => .tuple [.int x.1, .int x.2]
  | [], _ => rfl
  | _ :: _, [] => rfl
  | x :: a, y :: b => by
    show PyData.tuple [.int x, .int y] :: zipP (a.map .int) (b.map .int) = _
    rw [zip_ints a b]; rfl
theorem row_loop (A B : Slot) : ∀ (a : List Int) (s2 s3 : Slot), free s2 = true → free s3 = true →
    ∃ t2 t3, forL (gT 2 (gsC (gN 2) (gsC (gN 3) gsN))) (vIfS (vOrT (vNotT (toT (frO (vCall S__law_whole (aC (vVar 2) aN))))) (toT (vCmp .ne (vVarD 2) (vVarD 3)))) (vRetP (vC (.bool false))) vSkip) ((a.zip a).map fun x => .tuple [.int x.1, .int x.2]) [A, B, s2, s3] = .nx [A, B, t2, t3]
  | [], s2, s3, _, _ => ⟨s2, s3, rfl⟩
  | x :: a, s2, s3, h2, h3 => by
    obtain ⟨t2, t3, e⟩ := row_loop A B a (.va (.f (.d (.int x)))) (.va (.f (.d (.int x)))) rfl rfl
    refine ⟨t2, t3, ?_⟩
    rw [List.zip_cons_cons, List.map_cons, forL_cons, tgt_some (e1 := [A, B, .va (.f (.d (.int x))), .va (.f (.d (.int x)))]) (by simp [h2, h3])]
    simp
    exact e
@[simp] theorem run_row (a : List Int) : run S__law_row [.d (.list (a.map .int)), .d (.list (a.map .int))] = .ok (.d (.bool true)) := by
  unfold S__law_row B__law_row
  rw [run_mk]
  obtain ⟨t2, t3, e⟩ := row_loop (.va (.f (.d (.list (a.map .int))))) (.va (.f (.d (.list (a.map .int))))) a .no .no rfl rfl
  simp
  rw [zip_ints, e]
  simp
structure Tb (p h f : Int) : Prop where
  pr : p ∈ ([5, 7, 11, 13, 17, 19, 23, 29, 31] : List Int)
  h3 : 3 ≤ h
  h7 : h ≤ 7
  hp : h < p
  f1 : 1 ≤ f
  f2 : f ≤ 2
  fh : 2 * f < h
theorem Tb.pos {p h f : Int} (t : Tb p h f) : 5 ≤ p ∧ p ≤ 31 := by
  have := t.pr
  simp only [List.mem_cons, List.not_mem_nil, or_false] at this
  omega
def runM (c : Str) (S : Fn) (xs : List FV) : Res FV := (outM (S (.rf (.obj c []) :: xs.map vaF))).bind frF
@[simp] theorem vMake_fr (c : Str) (S : Fn) (fs : Env → Res (List FV)) (e : Env) : (vMake c S fs e).bind frF = (fs e).bind (runM c S) := by
  unfold vMake runM
  rw [bind_assoc]
def finM : Flow → Res FV
  | .rt (.f (.d .none)) (.rf s :: _) => frF s
  | .nx (.rf s :: _) => frF s
  | .err c _ => .err c
  | _ => .bad
theorem runM_mk (c : Str) (nl : Nat) (body : ST) (xs : List FV) : runM c (mkFn nl body) xs = finM (body (.rf (.obj c []) :: (xs.map vaF ++ List.replicate nl .no))) := by
  unfold runM mkFn
  show (outM (match body (.rf (.obj c []) :: (xs.map vaF ++ List.replicate nl .no)) with | .rt s e => .ret s (backA _ e) | .nx e => .ret (.f (.d .none)) (backA _ e) | .err c _ => .exc c | .bad => .bad)).bind frF = _
  cases body (.rf (.obj c []) :: (xs.map vaF ++ List.replicate nl .no)) with
  | nx e =>
    cases e with
    | nil => rfl
    | cons s e => cases s <;> rfl
  | rt v e =>
    cases v with
    | f x =>
      cases x with
      | d p =>
        cases p with
        | none => cases e with
          | nil => rfl
          | cons s e => cases s <;> rfl
        | _ => cases e <;> rfl
      | _ => cases e <;> rfl
    | _ => cases e <;> rfl
  | err c e => rfl
  | bad => rfl
theorem run_table (p h f : Int) (t : Tb p h f) : runM "Table" S_Table___init__ [.d (.int p), .d (.int h), .d (.int f)] = .ok (tbl p h f) := by
  unfold S_Table___init__ B_Table___init__
  rw [runM_mk]
  have h1 := t.pr
  have h2 := t.h3
  have h3 := t.h7
  have h4 := t.hp
  have h5 := t.f1
  have h6 := t.f2
  have h7 := t.fh
  rw [vSeq_ap]
  rw [show (vIfS (vOrT (toT (vCmp .notin (vVarD 1) (toD (vC (.tuple (([5, 7, 11, 13, 17, 19, 23, 29, 31] : List Int).map .int)))))) (vOrT (vNotT (toT (vChain .le .le (toD (vC (.int 3))) (vVarD 2) (toD (vC (.int 7)))))) (toT (vCmp .ge (vVarD 2) (vVarD 1))))) (vRaise "BadTable") vSkip)
    (.rf (.obj "Table" []) :: ([FV.d (.int p), .d (.int h), .d (.int f)].map vaF ++ List.replicate 0 .no)) = .nx (.rf (.obj "Table" []) :: ([FV.d (.int p), .d (.int h), .d (.int f)].map vaF ++ List.replicate 0 .no)) from ?_]
  · rw [andThen_nx, vSeq_ap]
    rw [show (vIfS (vOrT (vNotT (toT (vChain .le .le (toD (vC (.int 1))) (vVarD 3) (toD (vC (.int 2)))))) (toT (vCmp .ge (frD (v2 mulV (toD (vC (.int 2))) (vVarD 3))) (vVarD 2)))) (vRaise "BadTable") vSkip)
      (.rf (.obj "Table" []) :: ([FV.d (.int p), .d (.int h), .d (.int f)].map vaF ++ List.replicate 0 .no)) = .nx (.rf (.obj "Table" []) :: ([FV.d (.int p), .d (.int h), .d (.int f)].map vaF ++ List.replicate 0 .no)) from ?_]
    · rfl
    · simp (disch := first | rfl | assumption | omega | simp) [h5, h6]
      omega
  · have hr : ∀ e : Env, e[1]? = some (.va (.f (.d (.int p)))) → vCmp .notin (vVarD 1) (toD (vC (.tuple (([5, 7, 11, 13, 17, 19, 23, 29, 31] : List Int).map .int)))) e = .ok (.d (.bool false)) := fun e he => by
      rw [vCmp_ap, vVarD_ap, he, ldD_va, ldS_f, bind_ok, toD_ap, vC_ap, bind_ok, dOf_d, bind_ok, cop_notin_tints, decide_eq_true h1]
      rfl
    rw [vIfS_ap, vOrT_ap, toT_ap, hr _ rfl]
    simp (disch := first | rfl | assumption | omega | simp) [h2, h3]
    omega
def tabP (c : Int) : Int := ([5, 7, 11, 13, 17, 19, 23, 29, 31] : List Int).getD (c % 9).toNat 0
def tabH (c : Int) : Int := 3 + c / 9 % ((if tabP c - 1 < 7 then tabP c - 1 else 7) - 2)
def tabF (c : Int) : Int := if 4 < tabH c ∧ c / 45 % 2 = 1 then 2 else 1
theorem tabP_at (c : Int) : atI ([.int 5, .int 7, .int 11, .int 13, .int 17, .int 19, .int 23, .int 29, .int 31] : List PyData) (c % 9) = some (.int (tabP c)) := by
  have h0 : 0 ≤ c % 9 := Int.emod_nonneg _ (by omega)
  have h9 : c % 9 < 9 := Int.emod_lt_of_pos _ (by omega)
  rw [atI_pos h0]
  unfold tabP
  have : (c % 9).toNat < 9 := by omega
  generalize (c % 9).toNat = k at this
  match k, this with
  | 0, _ => rfl
  | 1, _ => rfl
  | 2, _ => rfl
  | 3, _ => rfl
  | 4, _ => rfl
  | 5, _ => rfl
  | 6, _ => rfl
  | 7, _ => rfl
  | 8, _ => rfl
theorem tab_ok (c : Int) : Tb (tabP c) (tabH c) (tabF c) := by
  have hp : tabP c ∈ ([5, 7, 11, 13, 17, 19, 23, 29, 31] : List Int) := by
    unfold tabP
    have h0 : 0 ≤ c % 9 := Int.emod_nonneg _ (by omega)
    have h9 : c % 9 < 9 := Int.emod_lt_of_pos _ (by omega)
    have : (c % 9).toNat < 9 := by omega
    generalize (c % 9).toNat = k at this
    match k, this with
    | 0, _ => decide
    | 1, _ => decide
    | 2, _ => decide
    | 3, _ => decide
    | 4, _ => decide
    | 5, _ => decide
    | 6, _ => decide
    | 7, _ => decide
    | 8, _ => decide
  have h5 : 5 ≤ tabP c ∧ tabP c ≤ 31 := by
    simp only [List.mem_cons, List.not_mem_nil, or_false] at hp
    omega
  have hm : 0 < (if tabP c - 1 < 7 then tabP c - 1 else 7) - 2 := by split <;> omega
  have a1 : 3 ≤ tabH c := by
    unfold tabH
    have := Int.emod_nonneg (c / 9) (show (if tabP c - 1 < 7 then tabP c - 1 else 7) - 2 ≠ 0 by omega)
    omega
  have a2 : tabH c < 3 + ((if tabP c - 1 < 7 then tabP c - 1 else 7) - 2) := by
    unfold tabH
    have := Int.emod_lt_of_pos (c / 9) hm
    omega
  refine ⟨hp, a1, ?_, ?_, ?_, ?_, ?_⟩
  · split at a2 <;> omega
  · split at a2 <;> omega
  · unfold tabF; split <;> omega
  · unfold tabF; split <;> omega
  · unfold tabF; split <;> omega
@[simp] theorem run_table_by (c : Int) : run S__law_table_by [.d (.int c)] = .ok (tbl (tabP c) (tabH c) (tabF c)) := by
  unfold S__law_table_by B__law_table_by
  rw [run_mk]
  have hm : 0 < (if tabP c - 1 < 7 then tabP c - 1 else 7) - 2 := by
    have := (tab_ok c).pos
    split <;> omega
  have hq := run_table _ _ _ (tab_ok c)
  simp (disch := first | rfl | assumption | omega | simp) [tabP_at]
  unfold tabH tabF at hq
  unfold tabH tabF
  by_cases h1 : 4 < 3 + c / 9 % ((if tabP c - 1 < 7 then tabP c - 1 else 7) - 2)
  · by_cases h2 : c / 45 % 2 = 1
    · simpa [h1, h2, tabH] using hq
    · simpa [h1, h2, tabH] using hq
  · simpa [h1, tabH] using hq
end VL

set_option Elab.async false
set_option linter.all false
set_option maxRecDepth 100000
set_option maxHeartbeats 4000000
namespace VL
open PySem PySem.Spec PyProof.Rows L2

theorem emm (a b p : Int) : a % p * b % p = a * b % p := by rw [Int.mul_emod, Int.emod_emod_of_dvd _ (Int.dvd_refl p), ← Int.mul_emod]
theorem map_rng (F : Int → Int) (lo : Int) (n : Nat) : (rngP lo n).map (fun x => PyData.int (F (unI x))) = ((List.range n).map fun (k : Nat) => F (lo + (k : Int))).map .int := by
  unfold rngP
  rw [List.map_map, List.map_map]
  rfl
def peval : List Int → Int → Int
  | [], _ => 0
  | a :: r, x => a + x * peval r x
def hornP (p x : Int) (t : Int) (ns : List Int) : Int := ns.foldl (fun t n => (t * x + n) % p) t
theorem hornP_rev (p x : Int) : ∀ ns : List Int, hornP p x 0 ns.reverse = peval ns x % p
  | [] => by simp [hornP, peval]
  | a :: ns => by
    unfold hornP
    rw [List.reverse_cons, List.foldl_append]
    show (List.foldl (fun t n => (t * x + n) % p) 0 ns.reverse * x + a) % p = _
    have e : List.foldl (fun t n => (t * x + n) % p) 0 ns.reverse = peval ns x % p := hornP_rev p x ns
    rw [e]
    show (peval ns x % p * x + a) % p = (a + x * peval ns x) % p
    rw [Int.add_emod, emm, ← Int.add_emod, Int.add_comm, Int.mul_comm]
theorem Tb.mul {p h f : Int} (t : Tb p h f) {a : Int} (h0 : 0 ≤ a) (h1 : a < p) : -18446744073709551616 < a ∧ a < 18446744073709551616 := by
  have := t.pos; omega
theorem worth_loop (T R A : Slot) (p h f x : Int) (hp : 0 < p) (hp2 : p < 1000) : ∀ (ns : List Int) (t : Int) (s4 : Slot), free s4 = true → 0 ≤ t → t < p →
    ∃ t4, free t4 = true ∧ forL (gN 4) (vSet 3 (v2 modI (frD (v2 addV (frD (v2 mulV (vVarD 3) (vVarD 2))) (vVarD 4))) (toD (vFld "Table" "prime" (vVar 0))))) (ns.map .int) [.va (.f (tbl p h f)), R, .va (.f (.d (.int x))), .va (.f (.d (.int t))), s4]
      = .nx [.va (.f (tbl p h f)), R, .va (.f (.d (.int x))), .va (.f (.d (.int (hornP p x t ns)))), t4]
  | [], t, s4, h4, _, _ => ⟨s4, h4, rfl⟩
  | n :: ns, t, s4, h4, t0, t1 => by
    obtain ⟨t4, f4, e⟩ := worth_loop T R A p h f x hp hp2 ns ((t * x + n) % p) (.va (.f (.d (.int n)))) rfl (Int.emod_nonneg _ (by omega)) (Int.emod_lt_of_pos _ hp)
    refine ⟨t4, f4, ?_⟩
    rw [List.map_cons, forL_cons, tgt_some (gN_ap (t := s4) rfl h4)]
    simp (disch := first | rfl | assumption | omega | simp)
    exact e
@[simp] theorem run_worth (p h f x : Int) (ns : List Int) (hp : 0 < p) (hp2 : p < 1000) : run S_worth [tbl p h f, .d (.list (ns.map .int)), .d (.int x)] = .ok (.d (.int (peval ns x % p))) := by
  unfold S_worth B_worth
  rw [run_mk]
  obtain ⟨t4, f4, e⟩ := worth_loop .no (.va (.f (.d (.list (ns.map .int))))) .no p h f x hp hp2 ns.reverse 0 .no rfl (Int.le_refl _) hp
  rw [List.map_reverse] at e
  simp
  rw [e]
  simp [hornP_rev]
def dealtM (p h n : Int) (ch : List Int) : List Int := (List.range h.toNat).map fun (k : Nat) => peval (n :: ch) (1 + (k : Int)) % p
@[simp] theorem run_dealt (p h f n : Int) (ch : List Int) (hp : 0 < p) (hp2 : p < 1000) (h0 : 0 ≤ h) (h1 : h < 1000) (hl : ch.length < 10000) : run S_dealt [tbl p h f, .d (.int n), .d (.list (ch.map .int))] = .ok (.d (.list ((dealtM p h n ch).map .int))) := by
  unfold S_dealt B_dealt
  rw [run_mk, vRet_ap, fin_ret]
  have hw := fun x => run_worth p h f x (n :: ch) hp hp2
  rw [comp_map (items := rngP 1 h.toNat) (fun x => .int (peval (n :: ch) (unI x) % p))]
  · rw [map_rng fun x => peval (n :: ch) x % p]
    rfl
  · simp (disch := first | rfl | assumption | omega | simp)
  · rw [rngP_length]; omega
  · intro x hx
    obtain ⟨i, hi, rfl⟩ := rngP_mem hx
    refine ⟨_, gN_ap (t := .no) rfl rfl, ?_⟩
    have hw := hw (1 + (i : Int))
    rw [List.map_cons] at hw
    simp (disch := first | rfl | assumption | omega | simp) [hw]
theorem law_end {S : Fn} {x : FV} (h : run S [x] = .ok (.d (.bool true))) : ∃ a, S [.va (.f x)] = .ret (.f (.d (.bool true))) a := by
  unfold run at h
  cases z : S ([x].map vaF) with
  | ret s a =>
    rw [z] at h
    have h' : frF s = .ok (.d (.bool true)) := h
    cases s with
    | f y =>
      cases h'
      exact ⟨a, z⟩
    | own xs =>
      have h2 : (match (SV.frzs xs).map (fun ps => FV.d (.list ps)) with | some x => Res.ok x | none => .bad) = Res.ok (FV.d (.bool true)) := h'
      cases q : SV.frzs xs with
      | none => rw [q] at h2; cases h2
      | some ps => rw [q] at h2; cases h2
    | otup xs =>
      have h2 : (match (SV.frzs xs).map (fun ps => FV.d (.tuple ps)) with | some x => Res.ok x | none => .bad) = Res.ok (FV.d (.bool true)) := h'
      cases q : SV.frzs xs with
      | none => rw [q] at h2; cases h2
      | some ps => rw [q] at h2; cases h2
    | obj c fs =>
      have h2 : (match (SV.frzf fs).map (fun ps => FV.ob c ps) with | some x => Res.ok x | none => .bad) = Res.ok (FV.d (.bool true)) := h'
      cases q : SV.frzf fs with
      | none => rw [q] at h2; cases h2
      | some ps => rw [q] at h2; cases h2
  | exc c => rw [z] at h; cases h
  | bad => rw [z] at h; cases h
end VL

set_option Elab.async false
set_option linter.all false
set_option maxRecDepth 100000
set_option maxHeartbeats 4000000
namespace VL
open PySem PySem.Spec PyProof.Rows L2

def Flow.wp (f : Flow) (P : Env → Prop) : Prop := match f with
  | .nx e => P e
  | _ => False
@[simp] theorem wp_nx (e : Env) (P : Env → Prop) : (Flow.nx e).wp P = P e := rfl
@[simp] theorem wp_andThen (f : Flow) (g : ST) (P : Env → Prop) : (f.andThen g).wp P = f.wp fun e => (g e).wp P := by cases f <;> rfl
@[simp] theorem wp_ite (c : Prop) [Decidable c] (a b : Flow) (P : Env → Prop) : (if c then a else b).wp P = if c then a.wp P else b.wp P := by split <;> rfl
theorem wp_imp {f : Flow} {P Q : Env → Prop} (h : f.wp P) (k : ∀ e, P e → Q e) : f.wp Q := by
  cases f with
  | nx e => exact k e h
  | _ => exact h.elim
def oW (o : Option Env) (P : Env → Prop) : Prop := match o with
  | some e => P e
  | none => False
@[simp] theorem oW_some (e : Env) (P : Env → Prop) : oW (some e) P = P e := rfl
theorem wp_for {g : Tgt} {b : ST} {P : Env → Prop} (I : Nat → Env → Prop) : ∀ {items : List PyData} {e : Env}, I 0 e → (∀ i x e, items[i]? = some x → I i e → oW (g x e) fun e1 => (b e1).wp (I (i + 1))) → (∀ e, I items.length e → P e) → (forL g b items e).wp P := by
  intro items
  induction items generalizing I with
  | nil => intro e h0 _ hk; exact hk e h0
  | cons x items ih =>
    intro e h0 hs hk
    have h1 := hs 0 x e rfl h0
    rw [forL_cons]
    unfold tgt
    cases z : g x e with
    | none => rw [z] at h1; exact h1.elim
    | some e1 =>
      rw [z] at h1
      have h2 : (b e1).wp (I 1) := h1
      dsimp only
      rw [wp_andThen]
      refine wp_imp h2 fun e2 h3 => ?_
      exact ih (fun i => I (i + 1)) h3 (fun i y e hy hi => hs (i + 1) y e (by simpa using hy) hi) hk
theorem fin_wp {f : Flow} {k : ST} {R : Res FV} (h : f.wp fun e => fin (k e) = R) : fin (f.andThen k) = R := by
  cases f with
  | nx e => exact h
  | _ => exact h.elim
theorem rng_get {lo : Int} {n i : Nat} {x : PyData} (h : (rngP lo n)[i]? = some x) : i < n ∧ x = .int (lo + i) := by
  have hi : i < n := by rw [← rngP_length lo n]; exact (List.getElem?_eq_some_iff.mp h).1
  refine ⟨hi, ?_⟩
  unfold rngP at h
  rw [List.getElem?_map, List.getElem?_range hi] at h
  exact (Option.some.inj h).symm
theorem enum_get {ds : List PyData} {i : Nat} {x : PyData} (h : (enumP 0 ds)[i]? = some x) : ∃ d, ds[i]? = some d ∧ x = .tuple [.int i, d] := by
  rw [enumP_get] at h
  cases z : ds[i]? with
  | none => rw [z] at h; cases h
  | some d => rw [z] at h; rw [Nat.zero_add] at h; exact ⟨d, rfl, (Option.some.inj h).symm⟩
def bkI (p n : Int) : Nat → Int
  | 0 => 1
  | k + 1 => bkI p n k * n % p
def bk (p n : Int) : Int := bkI p n (p - 2).toNat
theorem bkI_lt {p n : Int} (hp : 1 < p) : ∀ k, 0 ≤ bkI p n k ∧ bkI p n k < p
  | 0 => ⟨by show (0 : Int) ≤ 1; omega, hp⟩
  | k + 1 => ⟨Int.emod_nonneg _ (by omega), Int.emod_lt_of_pos _ (by omega)⟩
theorem bk_lt {p n : Int} (hp : 1 < p) : 0 ≤ bk p n ∧ bk p n < p := bkI_lt hp _
theorem run_back (p h f n : Int) (hp : 2 < p) (hp2 : p < 1000) (hn : n ≠ 0) (hn0 : 0 ≤ n) (hn1 : n < p) : run S_back [tbl p h f, .d (.int n)] = .ok (.d (.int (bk p n))) := by
  unfold S_back B_back
  rw [run_mk]
  simp (disch := first | rfl | assumption | omega | simp [*]) [hn]
  refine fin_wp (wp_for (fun i e => ∃ s, free s = true ∧ e = [.va (.f (tbl p h f)), .va (.f (.d (.int n))), .va (.f (.d (.int (bkI p n i)))), s]) ⟨.no, rfl, rfl⟩ ?_ ?_)
  · rintro i x e hx ⟨s, hs, rfl⟩
    have hb := bkI_lt (n := n) (show 1 < p by omega) i
    simp (disch := first | rfl | assumption | omega | simp [*]) [hs]
    rfl
  · rintro e ⟨s, hs, rfl⟩
    rw [rngP_length]
    simp
    rfl
theorem bk_all : ∀ p ∈ ([5, 7, 11, 13, 17, 19, 23, 29, 31] : List Int), ∀ n ∈ List.range 31, 0 < n → (n : Int) < p → bk p n * n % p = 1 := by decide +kernel
theorem bk_ok {p h f n : Int} (t : Tb p h f) (h0 : 0 < n) (h1 : n < p) : bk p n * n % p = 1 := by
  have tp := t.pos
  have := bk_all p t.pr n.toNat (List.mem_range.mpr (by omega)) (by omega) (by omega)
  rwa [show ((n.toNat : Nat) : Int) = n by omega] at this
theorem drop_err {S : Fn} {fs : Env → Res (List FV)} {e : Env} {xs : List FV} {c : Str} (h : fs e = .ok xs) (r : run S xs = .err c) : vDrop (vCall S fs) e = .err c e := by
  unfold run at r
  rw [vDrop_ap]
  unfold vCall
  rw [h, bind_ok]
  cases z : outR (S (xs.map vaF)) with
  | ok s => rw [z] at r; have r' : frF s = .err c := r; unfold frF at r'; split at r' <;> cases r'
  | err c' => rw [z] at r; cases r; rfl
  | bad => rw [z] at r; cases r
theorem drop_ok {S : Fn} {fs : Env → Res (List FV)} {e : Env} {xs : List FV} {v : FV} (h : fs e = .ok xs) (r : run S xs = .ok v) : vDrop (vCall S fs) e = .nx e := by
  unfold run at r
  rw [vDrop_ap]
  unfold vCall
  rw [h, bind_ok]
  cases z : outR (S (xs.map vaF)) with
  | ok s => rfl
  | err c' => rw [z] at r; cases r
  | bad => rw [z] at r; cases r
end VL

set_option Elab.async false
set_option linter.all false
set_option maxRecDepth 100000
set_option maxHeartbeats 4000000
namespace VL
open PySem PySem.Spec PyProof.Rows L2
def runO (S : Fn) (xs : List FV) : Res SV := outR (S (xs.map vaF))
theorem vCall_raw (S : Fn) (fs : Env → Res (List FV)) (e : Env) : vCall S fs e = (fs e).bind (runO S) := rfl
theorem run_runO (S : Fn) (xs : List FV) : run S xs = (runO S xs).bind frF := rfl
theorem frF_own (xs : List SV) : frF (.own xs) = match SV.frzs xs with | some ds => .ok (.d (.list ds)) | none => .bad := by
  unfold frF
  show (match (SV.frzs xs).map (fun ps => FV.d (.list ps)) with | some x => Res.ok x | none => .bad) = _
  cases SV.frzs xs <;> rfl
theorem frF_flat {s : SV} {p : PyData} (hp : flatP p = true) (h : frF s = .ok (.d p)) : s = .f (.d p) := by
  cases s with
  | f x => cases h; rfl
  | own xs =>
    rw [frF_own] at h
    cases z : SV.frzs xs with
    | none => rw [z] at h; cases h
    | some ds => rw [z] at h; cases h; cases hp
  | otup xs =>
    have h' : (match (SV.frzs xs).map (fun ps => FV.d (.tuple ps)) with | some x => Res.ok x | none => .bad) = Res.ok (.d p) := h
    cases z : SV.frzs xs with
    | none => rw [z] at h'; cases h'
    | some ds => rw [z] at h'; cases h'; cases hp
  | obj c fs =>
    have h' : (match (SV.frzf fs).map (fun ps => FV.ob c ps) with | some x => Res.ok x | none => .bad) = Res.ok (.d p) := h
    cases z : SV.frzf fs with
    | none => rw [z] at h'; cases h'
    | some ds => rw [z] at h'; cases h'
theorem runO_flat {S : Fn} {xs : List FV} {p : PyData} (hp : flatP p = true) (h : run S xs = .ok (.d p)) : runO S xs = .ok (.f (.d p)) := by
  rw [run_runO] at h
  cases z : runO S xs with
  | ok s => rw [z] at h; rw [frF_flat hp h]
  | err c => rw [z] at h; cases h
  | bad => rw [z] at h; cases h
def finO : Flow → Res SV
  | .rt s _ => .ok s
  | .nx _ => .ok (.f (.d .none))
  | .err c _ => .err c
  | .bad => .bad
@[simp] theorem finO_rt (s : SV) (e : Env) : finO (.rt s e) = .ok s := rfl
@[simp] theorem finO_err (c : Str) (e : Env) : finO (.err c e) = .err c := rfl
theorem runO_mk (nl : Nat) (body : ST) (xs : List FV) : runO (mkFn nl body) xs = finO (body (xs.map vaF ++ List.replicate nl .no)) := by
  unfold runO mkFn
  cases body (xs.map vaF ++ List.replicate nl .no) <;> rfl
@[simp] theorem finO_ret (r : Res SV) (e : Env) : finO (ofR r e fun s => .rt s e) = r := by cases r <;> rfl
@[simp] theorem finO_ite (c : Prop) [Decidable c] (a b : Flow) : finO (if c then a else b) = if c then finO a else finO b := by split <;> rfl
theorem finO_wp {f : Flow} {k : ST} {R : Res SV} (h : f.wp fun e => finO (k e) = R) : finO (f.andThen k) = R := by
  cases f with
  | nx e => exact h
  | _ => exact h.elim
theorem run_ofO {S : Fn} {xs : List FV} {s : SV} {x : FV} (h : runO S xs = .ok s) (hs : frF s = .ok x) : run S xs = .ok x := by
  rw [run_runO, h, bind_ok, hs]
end VL

set_option Elab.async false
set_option linter.all false
set_option maxRecDepth 100000
set_option maxHeartbeats 4000000
namespace VL
open PySem PySem.Spec PyProof.Rows L2

def Rng (p : Int) (F : List Int) : Prop := ∀ c ∈ F, 0 ≤ c ∧ c < p
theorem Rng.nth {p : Int} {F : List Int} (h : Rng p F) {i : Nat} {c : Int} (e : F[i]? = some c) : 0 ≤ c ∧ c < p := h c (List.mem_of_getElem? e)
theorem Rng.set {p : Int} {F : List Int} (h : Rng p F) {i : Nat} {c : Int} (hc : 0 ≤ c ∧ c < p) : Rng p (F.set i c) := fun d m => by
  rcases List.mem_or_eq_of_mem_set m with q | q
  · exact h d q
  · rw [q]; exact hc
theorem Rng.rep {p : Int} (hp : 0 < p) (n : Nat) : Rng p (List.replicate n 0) := fun d m => by
  rw [(List.mem_replicate.mp m).2]; omega
def Cg (p a b : Int) : Prop := ∃ k, a = b + p * k
theorem Cg.refl (p a : Int) : Cg p a a := ⟨0, by omega⟩
theorem Cg.emod (p a : Int) : Cg p (a % p) a := ⟨-(a / p), by have := Int.emod_add_mul_ediv a p; grind⟩
theorem Cg.symm {p a b : Int} (h : Cg p a b) : Cg p b a := by obtain ⟨k, h⟩ := h; exact ⟨-k, by grind⟩
theorem Cg.trans {p a b c : Int} (h : Cg p a b) (h' : Cg p b c) : Cg p a c := by
  obtain ⟨k, h⟩ := h; obtain ⟨j, h'⟩ := h'; exact ⟨k + j, by grind⟩
theorem Cg.add {p a b c d : Int} (h : Cg p a b) (h' : Cg p c d) : Cg p (a + c) (b + d) := by
  obtain ⟨k, h⟩ := h; obtain ⟨j, h'⟩ := h'; exact ⟨k + j, by grind⟩
theorem Cg.mul {p a b c d : Int} (h : Cg p a b) (h' : Cg p c d) : Cg p (a * c) (b * d) := by
  obtain ⟨k, h⟩ := h; obtain ⟨j, h'⟩ := h'; exact ⟨b * j + k * d + p * k * j, by grind⟩
theorem Cg.mod_eq {p a b : Int} (h : Cg p a b) : a % p = b % p := by
  obtain ⟨k, h⟩ := h
  rw [h, Int.add_mul_emod_self_left]
theorem Cg.of_mod {p a b : Int} (h : a % p = b % p) : Cg p a b := (Cg.emod p a).symm.trans (by rw [h]; exact Cg.emod p b)
theorem Cg.eq {p a b : Int} (h : Cg p a b) (ha : 0 ≤ a ∧ a < p) (hb : 0 ≤ b ∧ b < p) : a = b := by
  have := h.mod_eq
  rwa [Int.emod_eq_of_lt ha.1 ha.2, Int.emod_eq_of_lt hb.1 hb.2] at this
theorem peval_set (x : Int) : ∀ (F : List Int) (i : Nat) (c d : Int), F[i]? = some c → peval (F.set i d) x = peval F x + (d - c) * x ^ i
  | [], i, c, d, h => by simp at h
  | a :: F, 0, c, d, h => by
    have e : a = c := by simpa using h
    subst e
    show d + x * peval F x = a + x * peval F x + (d - a) * x ^ 0
    grind
  | a :: F, i + 1, c, d, h => by
    show a + x * peval (F.set i d) x = a + x * peval F x + (d - c) * x ^ (i + 1)
    rw [peval_set x F i c d (by simpa using h)]
    grind
theorem peval_rep (x : Int) : ∀ n, peval (List.replicate n 0) x = 0
  | 0 => rfl
  | n + 1 => by
    show 0 + x * peval (List.replicate n 0) x = 0
    rw [peval_rep x n]; grind
theorem peval_take (x : Int) : ∀ (R : List Int) (i : Nat) (c : Int), R[i]? = some c → peval (R.take (i + 1)) x = peval (R.take i) x + c * x ^ i
  | [], i, c, h => by simp at h
  | a :: R, 0, c, h => by
    have e : a = c := by simpa using h
    subst e
    show a + x * peval (R.take 0) x = 0 + a * x ^ 0
    rw [List.take_zero]
    show a + x * 0 = 0 + a * x ^ 0
    grind
  | a :: R, i + 1, c, h => by
    show a + x * peval (R.take (i + 1)) x = a + x * peval (R.take i) x + c * x ^ (i + 1)
    rw [peval_take x R i c (by simpa using h)]
    grind
theorem exO_wp {α : Type} {Q : α → Res SV → Prop} {f : Flow} {k : ST} (h : f.wp fun e => ∃ F, Q F (finO (k e))) : ∃ F, Q F (finO (f.andThen k)) := by
  cases f with
  | nx e => exact h
  | _ => exact h.elim
structure Prd (p : Int) (R O F : List Int) : Prop where
  len : F.length = R.length + O.length - 1
  rng : Rng p F
  val : ∀ x, Cg p (peval F x) (peval R x * peval O x)
theorem run_product (p h f : Int) (R O : List Int) (hp : 0 < p) (hp2 : p < 1000) (hR : 0 < R.length) (hR2 : R.length < 1000) (hO : 0 < O.length) (hO2 : O.length < 1000) (rR : ∀ c ∈ R, -1000000 < c ∧ c < 1000000) (rO : ∀ c ∈ O, -1000000 < c ∧ c < 1000000) :
    ∃ F, run S_product [tbl p h f, .d (.list (R.map .int)), .d (.list (O.map .int))] = .ok (.d (.list (F.map .int))) ∧ Prd p R O F := by
  have key : ∃ F, runO S_product [tbl p h f, .d (.list (R.map .int)), .d (.list (O.map .int))] = .ok (SV.dl (F.map .int)) ∧ Prd p R O F := by
    unfold S_product B_product
    rw [runO_mk]
    have hz : vSetO 3 (v2 mulV (frD (vLst (vCons (toD (vC (.int 0))) vNil))) (toD (v2 maxI (toD (vC (.int 0))) (toD (v2 subI (frD (v2 addV (toD (v1 lenP (vVarD 1))) (toD (v1 lenP (vVarD 2))))) (toD (vC (.int 1))))))))
        ([tbl p h f, FV.d (.list (R.map .int)), .d (.list (O.map .int))].map vaF ++ List.replicate 5 .no) = .nx [.va (.f (tbl p h f)), .va (.f (.d (.list (R.map .int)))), .va (.f (.d (.list (O.map .int)))), .va (SV.dl ((List.replicate (R.length + O.length - 1) (0 : Int)).map .int)), .no, .no, .no, .no] := by
      have e1 : (if 0 < (R.length : Int) + (O.length : Int) - 1 then (R.length : Int) + (O.length : Int) - 1 else 0) = ((R.length + O.length - 1 : Nat) : Int) := by
        rw [if_pos (by omega)]; omega
      have e2 : (List.replicate (R.length + O.length - 1) [PyData.int 0]).flatten = (List.replicate (R.length + O.length - 1) (0 : Int)).map .int := by
        rw [List.map_replicate]
        generalize R.length + O.length - 1 = n
        induction n with
        | zero => rfl
        | succ n ih => rw [List.replicate_succ, List.flatten_cons, ih, List.replicate_succ]; rfl
      simp (disch := first | rfl | assumption | omega | simp [*]) [e1, -List.map_replicate]
      rw [if_pos (by omega), List.map_replicate]
      congr 2
      omega
    rw [vSeq_ap, hz, andThen_nx, vSeq_ap, vFor_ap]
    have hit : vItEnum (toD (vVar 1)) [.va (.f (tbl p h f)), .va (.f (.d (.list (R.map .int)))), .va (.f (.d (.list (O.map .int)))), .va (SV.dl ((List.replicate (R.length + O.length - 1) (0 : Int)).map .int)), .no, .no, .no, .no] = .ok (enumP 0 (R.map .int)) := by simp
    rw [hit, ofR_ok]
    refine exO_wp (Q := fun F r => r = .ok (SV.dl (F.map .int)) ∧ Prd p R O F) (wp_for (fun j e => ∃ F s4 s5 s6 s7, free s4 = true ∧ free s5 = true ∧ free s6 = true ∧ free s7 = true ∧
      e = [.va (.f (tbl p h f)), .va (.f (.d (.list (R.map .int)))), .va (.f (.d (.list (O.map .int)))), .va (SV.dl (F.map .int)), s4, s5, s6, s7] ∧ F.length = R.length + O.length - 1 ∧ Rng p F ∧ ∀ x, Cg p (peval F x) (peval (R.take j) x * peval O x)) ?_ ?_ ?_)
    · exact ⟨List.replicate (R.length + O.length - 1) 0, .no, .no, .no, .no, rfl, rfl, rfl, rfl, rfl, List.length_replicate, Rng.rep hp _, fun x => by
        rw [peval_rep, List.take_zero]
        show Cg p 0 (0 * peval O x)
        rw [Int.zero_mul]
        exact Cg.refl _ _⟩
    · rintro j x e hx ⟨F, s4, s5, s6, s7, h4, h5, h6, h7, rfl, hl, hr, hv⟩
      obtain ⟨d, hd, rfl⟩ := enum_get hx
      rw [List.getElem?_map] at hd
      cases hj : R[j]? with
      | none => rw [hj] at hd; cases hd
      | some c =>
        rw [hj] at hd
        cases hd
        have jl : j < R.length := (List.getElem?_eq_some_iff.mp hj).1
        simp (disch := first | rfl | assumption | omega | simp [*])
        refine wp_for (fun k e => ∃ F s6 s7, free s6 = true ∧ free s7 = true ∧
          e = [.va (.f (tbl p h f)), .va (.f (.d (.list (R.map .int)))), .va (.f (.d (.list (O.map .int)))), .va (SV.dl (F.map .int)), .va (.f (.d (.int j))), .va (.f (.d (.int c))), s6, s7] ∧ F.length = R.length + O.length - 1 ∧ Rng p F ∧ ∀ x, Cg p (peval F x) (peval (R.take j) x * peval O x + c * x ^ j * peval (O.take k) x)) ?_ ?_ ?_
        · exact ⟨F, s6, s7, h6, h7, rfl, hl, hr, fun x => by
            rw [List.take_zero]
            show Cg p _ (_ + c * x ^ j * 0)
            rw [Int.mul_zero, Int.add_zero]
            exact hv x⟩
        · rintro k y e hy ⟨F, s6, s7, h6, h7, rfl, hl, hr, hv⟩
          obtain ⟨d, hd2, rfl⟩ := enum_get hy
          rw [List.getElem?_map] at hd2
          cases hk : O[k]? with
          | none => rw [hk] at hd2; cases hd2
          | some b =>
            rw [hk] at hd2
            cases hd2
            have kl : k < O.length := (List.getElem?_eq_some_iff.mp hk).1
            have il : j + k < F.length := by omega
            have hF : F[j + k]? = some F[j + k] := List.getElem?_eq_getElem il
            have hat : atI (F.map PyData.int) ((j : Int) + (k : Int)) = some (.int F[j + k]) := by
              rw [atI_pos (by omega), show ((j : Int) + (k : Int)).toNat = j + k by omega, List.getElem?_map, hF]
              rfl
            have hpl := plS_dl 3 [] (F.map .int) ((j : Int) + (k : Int)) _ hat
            have rc := rR c (List.mem_of_getElem? hj)
            have rb := rO b (List.mem_of_getElem? hk)
            have lenF : ((F.map PyData.int).length : Int) = F.length := by rw [List.length_map]
            simp (disch := first | rfl | assumption | omega | simp [*]) [hpl]
            refine ⟨F.set (j + k) ((F[j + k] + c * b) % p), _, rfl, _, rfl, ⟨?_, rfl, rfl⟩, ?_, ?_, fun x => ?_⟩
            · rw [show ((j : Int) + (k : Int)).toNat = j + k by omega, ← List.map_set]
            · rw [List.length_set]; exact hl
            · exact hr.set ⟨Int.emod_nonneg _ (by omega), Int.emod_lt_of_pos _ hp⟩
            · rw [peval_set x F (j + k) _ _ hF, peval_take x O k b hk]
              obtain ⟨q, hq⟩ := hv x
              obtain ⟨m, hm⟩ := Cg.emod p (F[j + k] + c * b)
              exact ⟨q + m * x ^ (j + k), by rw [hm, hq]; grind⟩
        · rintro e ⟨F, s6, s7, h6, h7, rfl, hl, hr, hv⟩
          refine ⟨F, _, rfl, _, rfl, s6, h6, s7, h7, rfl, hl, hr, fun x => ?_⟩
          have hv := hv x
          rw [enumP_length, List.length_map, List.take_length] at hv
          rw [peval_take x R j c hj]
          obtain ⟨q, hq⟩ := hv
          exact ⟨q, by rw [hq]; grind⟩
    · rintro e ⟨F, s4, s5, s6, s7, h4, h5, h6, h7, rfl, hl, hr, hv⟩
      refine ⟨F, ?_, hl, hr, fun x => ?_⟩
      · rw [vRetV_va (s := SV.dl (F.map .int)) 3 _ rfl]
        rfl
      · have hv := hv x
        rw [enumP_length, List.length_map, List.take_length] at hv
        exact hv
  obtain ⟨F, h1, h2⟩ := key
  exact ⟨F, run_ofO h1 (frF_dl _), h2⟩
end VL

set_option Elab.async false
set_option linter.all false
set_option maxRecDepth 100000
set_option maxHeartbeats 4000000
namespace VL
open PySem PySem.Spec PyProof.Rows L2

def Flow.wx (f : Flow) (c : Str) (E : Prop) (P : Env → Prop) : Prop := match f with
  | .nx e => P e
  | .err d _ => d = c ∧ E
  | _ => False
@[simp] theorem wx_nx (e : Env) (c : Str) (E : Prop) (P : Env → Prop) : (Flow.nx e).wx c E P = P e := rfl
@[simp] theorem wx_err (d : Str) (e : Env) (c : Str) (E : Prop) (P : Env → Prop) : (Flow.err d e).wx c E P = (d = c ∧ E) := rfl
@[simp] theorem wx_andThen (f : Flow) (g : ST) (c : Str) (E : Prop) (P : Env → Prop) : (f.andThen g).wx c E P = f.wx c E fun e => (g e).wx c E P := by cases f <;> rfl
@[simp] theorem wx_ite (b : Prop) [Decidable b] (x y : Flow) (c : Str) (E : Prop) (P : Env → Prop) : (if b then x else y).wx c E P = if b then x.wx c E P else y.wx c E P := by split <;> rfl
theorem wx_imp {f : Flow} {c : Str} {E : Prop} {P Q : Env → Prop} (h : f.wx c E P) (k : ∀ e, P e → Q e) : f.wx c E Q := by
  cases f with
  | nx e => exact k e h
  | err d e => exact h
  | _ => exact h.elim
theorem wx_for {g : Tgt} {b : ST} {c : Str} {E : Prop} {P : Env → Prop} (I : Nat → Env → Prop) : ∀ {items : List PyData} {e : Env}, I 0 e → (∀ i x e, items[i]? = some x → I i e → oW (g x e) fun e1 => (b e1).wx c E (I (i + 1))) → (∀ e, I items.length e → P e) → (forL g b items e).wx c E P := by
  intro items
  induction items generalizing I with
  | nil => intro e h0 _ hk; exact hk e h0
  | cons x items ih =>
    intro e h0 hs hk
    have h1 := hs 0 x e rfl h0
    rw [forL_cons]
    unfold tgt
    cases z : g x e with
    | none => rw [z] at h1; exact h1.elim
    | some e1 =>
      rw [z] at h1
      have h2 : (b e1).wx c E (I 1) := h1
      dsimp only
      rw [wx_andThen]
      refine wx_imp h2 fun e2 h3 => ?_
      exact ih (fun i => I (i + 1)) h3 (fun i y e hy hi => hs (i + 1) y e (by simpa using hy) hi) hk
theorem fin_wx' {f : Flow} {k : ST} {c : Str} {E : Prop} {P : Env → Prop} {G : Res FV → Prop} (h : f.wx c E P) (h1 : E → G (.err c)) (h2 : ∀ e, P e → G (fin (k e))) : G (fin (f.andThen k)) := by
  cases f with
  | nx e => exact h2 e h
  | err d e => rw [h.1]; exact h1 h.2
  | _ => exact h.elim
def ptsP (pts : List (Int × Int)) : List PyData := pts.map fun q => .tuple [.int q.1, .int q.2]
def DistX (pts : List (Int × Int)) : Prop := ∀ (j k : Nat) (q r : Int × Int), pts[j]? = some q → pts[k]? = some r → j ≠ k → q.1 ≠ r.1
structure Thr (p : Int) (pts : List (Int × Int)) (F : List Int) : Prop where
  len : F.length = pts.length
  rng : Rng p F
  val : ∀ q ∈ pts, Cg p (peval F q.1) q.2
theorem lin_val (p b far x : Int) : Cg p (peval [-b * far % p, far] x) ((x - b) * far) := by
  show Cg p (-b * far % p + x * (far + x * 0)) _
  obtain ⟨k, hk⟩ := Cg.emod p (-b * far)
  exact ⟨k, by rw [hk]; grind⟩
def addD (p : Int) : PyData → PyData
  | .tuple [.int a, .int b] => .int ((a + b) % p)
  | _ => .none
def addM (p : Int) (F R : List Int) : List Int := (F.zip R).map fun x => (x.1 + x.2) % p
theorem addM_length (p : Int) (F R : List Int) : (addM p F R).length = min F.length R.length := by unfold addM; simp
theorem addM_rng {p : Int} (hp : 0 < p) (F R : List Int) : Rng p (addM p F R) := fun c m => by
  obtain ⟨x, _, rfl⟩ := List.mem_map.mp m
  exact ⟨Int.emod_nonneg _ (by omega), Int.emod_lt_of_pos _ hp⟩
theorem addM_val (p x : Int) : ∀ (F R : List Int), F.length = R.length → Cg p (peval (addM p F R) x) (peval F x + peval R x)
  | [], [], _ => Cg.refl _ _
  | [], _ :: _, h => by cases h
  | _ :: _, [], h => by cases h
  | a :: F, b :: R, h => by
    have ih := addM_val p x F R (by simpa using h)
    obtain ⟨m, hm⟩ := ih
    obtain ⟨k, hk⟩ := Cg.emod p (a + b)
    refine ⟨k + x * m, ?_⟩
    show (a + b) % p + x * peval (addM p F R) x = a + x * peval F x + (b + x * peval R x) + p * (k + x * m)
    rw [hm, hk]
    grind
theorem run_through (p h f : Int) (t : Tb p h f) (pts : List (Int × Int)) (hl : pts.length < 900) (hX : ∀ q ∈ pts, 0 ≤ q.1 ∧ q.1 < p) (hY : ∀ q ∈ pts, -1000000 < q.2 ∧ q.2 < 1000000) :
    (¬ DistX pts ∧ run S_through [tbl p h f, .d (.list (ptsP pts))] = .err "AlikePoints") ∨ (DistX pts ∧ ∃ F, run S_through [tbl p h f, .d (.list (ptsP pts))] = .ok (.d (.list (F.map .int))) ∧ Thr p pts F) := by
  have tp := t.pos
  unfold S_through B_through
  rw [run_mk]
  have hz : vSet 2 (frO (v2 mulV (frD (vLst (vCons (toD (vC (.int 0))) vNil))) (toD (v1 lenP (vVarD 1))))) ([tbl p h f, FV.d (.list (ptsP pts))].map vaF ++ List.replicate 9 .no)
      = .nx [.va (.f (tbl p h f)), .va (.f (.d (.list (ptsP pts)))), .va (.f (.d (.list ((List.replicate pts.length (0 : Int)).map .int)))), .no, .no, .no, .no, .no, .no, .no, .no] := by
    have hn : (ptsP pts).length = pts.length := by unfold ptsP; rw [List.length_map]
    simp (disch := first | rfl | assumption | omega | simp [*]) [hn]
  rw [vSeq_ap, hz, andThen_nx, vSeq_ap, vFor_ap]
  have hit : vItEnum (toD (vVar 1)) [.va (.f (tbl p h f)), .va (.f (.d (.list (ptsP pts)))), .va (.f (.d (.list ((List.replicate pts.length (0 : Int)).map .int)))), .no, .no, .no, .no, .no, .no, .no, .no] = .ok (enumP 0 (ptsP pts)) := by simp
  rw [hit, ofR_ok]
  obtain ⟨I, hI⟩ : ∃ I : Nat → Env → Prop, ∀ j e, I j e ↔ ∃ F s3 s4 s5 s6 s7 s8, (free s3 = true ∧ free s4 = true ∧ free s5 = true ∧ free s6 = true ∧ free s7 = true ∧ free s8 = true) ∧
      e = [.va (.f (tbl p h f)), .va (.f (.d (.list (ptsP pts)))), .va (.f (.d (.list (F.map .int)))), s3, s4, s5, s6, s7, s8, .no, .no] ∧ F.length = pts.length ∧ Rng p F ∧ (∀ (i : Nat) (q : Int × Int), pts[i]? = some q → Cg p (peval F q.1) (if i < j then q.2 else 0)) ∧ (∀ (i k : Nat) (q r : Int × Int), i < j → pts[i]? = some q → pts[k]? = some r → i ≠ k → q.1 ≠ r.1) := ⟨_, fun _ _ => Iff.rfl⟩
  refine fin_wx' (G := fun r => (¬ DistX pts ∧ r = .err "AlikePoints") ∨ (DistX pts ∧ ∃ F, r = .ok (.d (.list (F.map .int))) ∧ Thr p pts F)) (c := "AlikePoints") (E := ¬ DistX pts) (P := I pts.length) (wx_for I ?_ ?_ ?_) ?_ ?_
  · exact (hI _ _).mpr ⟨List.replicate pts.length 0, .no, .no, .no, .no, .no, .no, ⟨rfl, rfl, rfl, rfl, rfl, rfl⟩, rfl, List.length_replicate, Rng.rep (by omega) _, fun i q _ => by
      rw [peval_rep, if_neg (by omega)]
      exact Cg.refl _ _, fun i k q r hi => absurd hi (by omega)⟩
  · intro j x e hx hI1
    obtain ⟨F, s3, s4, s5, s6, s7, s8, ⟨h3, h4, h5, h6, h7, h8⟩, rfl, hl, hr, hv, hd⟩ := (hI _ _).mp hI1
    obtain ⟨d, hd1, rfl⟩ := enum_get hx
    unfold ptsP at hd1
    rw [List.getElem?_map] at hd1
    cases hj : pts[j]? with
    | none => rw [hj] at hd1; cases hd1
    | some q =>
      rw [hj] at hd1
      cases hd1
      have jl : j < pts.length := (List.getElem?_eq_some_iff.mp hj).1
      have qx := hX q (List.mem_of_getElem? hj)
      have qy := hY q (List.mem_of_getElem? hj)
      have a0 : ∀ a b : Int, atI ([.int a, .int b] : List PyData) 0 = some (.int a) := fun a b => rfl
      have a1 : ∀ a b : Int, atI ([.int a, .int b] : List PyData) 1 = some (.int b) := fun a b => rfl
      obtain ⟨J, hJ⟩ : ∃ J : Nat → Env → Prop, ∀ k e, J k e ↔ ∃ R s6 s7 s8, (free s6 = true ∧ free s7 = true ∧ free s8 = true) ∧
        e = [.va (.f (tbl p h f)), .va (.f (.d (.list (ptsP pts)))), .va (.f (.d (.list (F.map .int)))), .va (.f (.d (.int j))), .va (.f (.d (.tuple [.int q.1, .int q.2]))), .va (.f (.d (.list (R.map .int)))), s6, s7, s8, .no, .no] ∧ R.length = (if j < k then k else k + 1) ∧ (∀ c ∈ R, -1000000 < c ∧ c < 1000000) ∧ Cg p (peval R q.1) q.2 ∧ (∀ (i : Nat) (r : Int × Int), i < k → i ≠ j → pts[i]? = some r → Cg p (peval R r.1) 0 ∧ q.1 ≠ r.1) := ⟨_, fun _ _ => Iff.rfl⟩
      simp (disch := first | rfl | assumption | omega | simp [*]) [a0, a1]
      refine wx_for J ?_ ?_ ?_
      · exact (hJ _ _).mpr ⟨[q.2], s6, s7, s8, ⟨h6, h7, h8⟩, rfl, by rw [if_neg (by omega)]; rfl, fun c m => by
          have e : c = q.2 := by simpa using m
          rw [e]; exact qy, by
          show Cg p (q.2 + q.1 * 0) q.2
          rw [Int.mul_zero, Int.add_zero]
          exact Cg.refl _ _, fun i r hi => absurd hi (by omega)⟩
      · intro k y e hy hJ1
        obtain ⟨R, s6, s7, s8, ⟨h6, h7, h8⟩, rfl, lR, rR, vR, zR⟩ := (hJ _ _).mp hJ1
        obtain ⟨d, hd2, rfl⟩ := enum_get hy
        unfold ptsP at hd2
        rw [List.getElem?_map] at hd2
        cases hk : pts[k]? with
        | none => rw [hk] at hd2; cases hd2
        | some r =>
          rw [hk] at hd2
          cases hd2
          have kl : k < pts.length := (List.getElem?_eq_some_iff.mp hk).1
          have rx := hX r (List.mem_of_getElem? hk)
          by_cases hkj : (k : Int) = (j : Int)
          · have ekj : k = j := by omega
            subst ekj
            rw [hj] at hk
            cases hk
            simp (disch := first | rfl | assumption | omega | simp [*]) [a0, a1]
            exact (hJ _ _).mpr ⟨R, _, _, s8, ⟨rfl, rfl, h8⟩, rfl, by rw [lR, if_neg (by omega), if_pos (by omega)], rR, vR, fun i r hi hne hr => zR i r (by omega) hne hr⟩
          · by_cases he : r.1 = q.1
            · simp (disch := first | rfl | assumption | omega | simp [*]) [a0, a1, hkj, he]
              exact fun D => D k j r q hk hj (by omega) he
            · have hdf : 0 < (q.1 - r.1) % p ∧ (q.1 - r.1) % p < p := by
                have b1 := Int.emod_nonneg (q.1 - r.1) (show p ≠ 0 by omega)
                have b2 := Int.emod_lt_of_pos (q.1 - r.1) (show 0 < p by omega)
                refine ⟨?_, b2⟩
                rcases Int.lt_or_eq_of_le b1 with z | z
                · exact z
                · exfalso
                  obtain ⟨m, hm⟩ := Int.dvd_of_emod_eq_zero z.symm
                  have m0 : m = 0 := by
                    rcases Int.lt_trichotomy m 0 with w | w | w
                    · have : p * m ≤ p * (-1) := Int.mul_le_mul_of_nonneg_left (by omega) (by omega)
                      omega
                    · exact w
                    · have : p * 1 ≤ p * m := Int.mul_le_mul_of_nonneg_left (by omega) (by omega)
                      omega
                  rw [m0] at hm
                  omega
              have hb := run_back p h f ((q.1 - r.1) % p) (by omega) (by omega) (by omega) (by omega) hdf.2
              have bl := bk_lt (p := p) (n := (q.1 - r.1) % p) (by omega)
              have bo := bk_ok t hdf.1 hdf.2
              generalize bk p ((q.1 - r.1) % p) = far at *
              have Rl : 0 < R.length ∧ R.length < 1000 := by rw [lR]; split <;> omega
              have ol := Int.emod_nonneg (-r.1 * far) (show p ≠ 0 by omega)
              have ol2 := Int.emod_lt_of_pos (-r.1 * far) (show 0 < p by omega)
              obtain ⟨F', hF, pF⟩ := run_product p h f R [-r.1 * far % p, far] (by omega) (by omega) Rl.1 Rl.2 (by simp) (by simp) rR (fun c m => by
                simp only [List.mem_cons, List.not_mem_nil, or_false] at m
                rcases m with rfl | rfl
                · exact ⟨by omega, by omega⟩
                · exact ⟨by omega, by omega⟩)
              simp only [List.map_cons, List.map_nil] at hF
              have hb' : -18446744073709551616 < -r.1 ∧ -r.1 < 18446744073709551616 := ⟨by omega, by omega⟩
              simp (disch := first | rfl | assumption | omega | simp [*]) [a0, a1, hkj, he, hb, hF]
              refine (hJ _ _).mpr ⟨F', _, _, _, ⟨rfl, rfl, rfl⟩, rfl, ?_, fun c m => ?_, ?_, fun i r' hi hne hr' => ?_⟩
              · rw [pF.len, lR]
                show (if j < k then k else k + 1) + 2 - 1 = _
                split <;> split <;> omega
              · have := pF.rng c m; omega
              · refine (pF.val q.1).trans ((vR.mul (lin_val p r.1 far q.1)).trans ?_)
                obtain ⟨m1, e1⟩ := Cg.emod p (q.1 - r.1)
                obtain ⟨m2, e2⟩ := (Cg.of_mod (p := p) (a := far * ((q.1 - r.1) % p)) (b := 1) (by rw [bo, Int.emod_eq_of_lt (by omega) (by omega)]))
                refine ⟨q.2 * (m2 - far * m1), ?_⟩
                have e3 : q.1 - r.1 = (q.1 - r.1) % p - p * m1 := by omega
                rw [e3]
                have e4 : ((q.1 - r.1) % p - p * m1) * far = 1 + p * m2 - p * m1 * far := by grind
                rw [e4]
                grind
              · by_cases hik : i = k
                · subst hik
                  rw [hk] at hr'
                  cases hr'
                  refine ⟨(pF.val r.1).trans ?_, fun z => he z.symm⟩
                  obtain ⟨m, hm⟩ := lin_val p r.1 far r.1
                  exact ⟨peval R r.1 * m, by rw [hm]; grind⟩
                · obtain ⟨z1, z2⟩ := zR i r' (by omega) hne hr'
                  refine ⟨(pF.val r'.1).trans ?_, z2⟩
                  obtain ⟨m, hm⟩ := z1
                  exact ⟨m * peval [-r.1 * far % p, far] r'.1, by rw [hm]; grind⟩
      · intro e hJ1
        obtain ⟨R, s6, s7, s8, ⟨h6, h7, h8⟩, rfl, lR, rR, vR, zR⟩ := (hJ _ _).mp hJ1
        have hn : (enumP 0 (ptsP pts)).length = pts.length := by rw [enumP_length]; unfold ptsP; rw [List.length_map]
        rw [hn] at lR zR
        rw [if_pos jl] at lR
        rw [comp_map (items := zipP (F.map .int) (R.map .int)) (addD p)]
        · rw [zip_ints, List.map_map, show ((F.zip R).map (addD p ∘ fun x => PyData.tuple [.int x.1, .int x.2])) = (addM p F R).map .int by unfold addM; rw [List.map_map]; rfl, ofR_ok]
          simp
          refine (hI _ _).mpr ⟨addM p F R, _, _, _, _, _, _, ⟨rfl, rfl, rfl, h6, h7, h8⟩, rfl, ?_, addM_rng (by omega) F R, fun i q' hq' => ?_, fun i k q' r' hi h1 h2 hne => ?_⟩
          · rw [addM_length, hl, lR, Nat.min_self]
          · have v1 := hv i q' hq'
            have v2 := addM_val p q'.1 F R (by rw [hl, lR])
            refine v2.trans ?_
            by_cases hij : i = j
            · subst hij
              rw [hj] at hq'
              cases hq'
              rw [if_neg (by omega)] at v1
              rw [if_pos (by omega)]
              have := v1.add vR
              rwa [Int.zero_add] at this
            · have il : i < pts.length := (List.getElem?_eq_some_iff.mp hq').1
              have z := (zR i q' il hij hq').1
              have := v1.add z
              rw [Int.add_zero] at this
              by_cases hlt : i < j
              · rw [if_pos hlt] at this; rwa [if_pos (by omega)]
              · rw [if_neg hlt] at this; rwa [if_neg (by omega)]
          · by_cases hij : i = j
            · subst hij
              rw [hj] at h1
              cases h1
              exact (zR k r' (List.getElem?_eq_some_iff.mp h2).1 (Ne.symm hne) h2).2
            · exact hd i k q' r' (by omega) h1 h2 hne
        · simp
        · rw [zipP_length]; simp; omega
        · intro x hx
          rw [zip_ints] at hx
          obtain ⟨⟨a, b⟩, _, rfl⟩ := List.mem_map.mp hx
          refine ⟨[.va (.f (tbl p h f)), .va (.f (.d (.list (ptsP pts)))), .va (.f (.d (.list (F.map .int)))), .va (.f (.d (.int j))), .va (.f (.d (.tuple [.int q.1, .int q.2]))), .va (.f (.d (.list (R.map .int)))), s6, s7, s8, .va (.f (.d (.int a))), .va (.f (.d (.int b)))], by simp, ?_⟩
          simp (disch := first | rfl | assumption | omega | simp [*])
          rfl
  · intro e hI1
    have hn : (enumP 0 (ptsP pts)).length = pts.length := by rw [enumP_length]; unfold ptsP; rw [List.length_map]
    rwa [hn] at hI1
  · intro h; exact .inl ⟨h, rfl⟩
  · intro e hI1
    obtain ⟨F, s3, s4, s5, s6, s7, s8, ⟨h3, h4, h5, h6, h7, h8⟩, rfl, hl, hr, hv, hd⟩ := (hI _ _).mp hI1
    refine .inr ⟨fun j k q r h1 h2 hne => hd j k q r (List.getElem?_eq_some_iff.mp h1).1 h1 h2 hne, F, by simp, hl, hr, fun q m => ?_⟩
    obtain ⟨i, hi, e⟩ := List.getElem_of_mem m
    have h1 : pts[i]? = some q := by rw [List.getElem?_eq_getElem hi, e]
    have := hv i q h1
    rwa [if_pos hi] at this
end VL

set_option Elab.async false
set_option linter.all false
set_option maxRecDepth 100000
set_option maxHeartbeats 4000000
namespace VL
open PySem PySem.Spec PyProof.Rows L2

theorem nz_mul {p h f a b : Int} (t : Tb p h f) (ha : 0 < a ∧ a < p) (h0 : Cg p (a * b) 0) : Cg p b 0 := by
  have bo := bk_ok t ha.1 ha.2
  have tp := t.pos
  obtain ⟨m, hm⟩ := h0
  obtain ⟨k, hk⟩ := Cg.of_mod (p := p) (a := bk p a * a) (b := 1) (by rw [bo, Int.emod_eq_of_lt (by omega) (by omega)])
  refine ⟨bk p a * m - k * b, ?_⟩
  have e1 : bk p a * (a * b) = bk p a * (0 + p * m) := by rw [hm]
  have e2 : bk p a * (a * b) = (1 + p * k) * b := by rw [← Int.mul_assoc, hk]
  grind
def allT (n : Nat) : PyData := .list ((List.replicate n true).map .bool)
@[simp] theorem allP_T (n : Nat) : allP (allT n) = .ok (.d (.bool true)) := by
  unfold allT
  rw [allP_bools]
  have : ((List.replicate n true).all id) = true := by rw [List.all_eq_true]; intro x m; rw [(List.mem_replicate.mp m).2]; rfl
  rw [this]
theorem comp_true {it : IT} {g : Tgt} {elt : FO} {vs : List Nat} {e : Env} {items : List PyData} (hi : it e = .ok items) (hl : items.length ≤ 16777216)
    (h : ∀ x ∈ items, ∃ e1, g x (wipeE e vs) = some e1 ∧ (elt e1).bind frF = .ok (.d (.bool true))) : (vComp it g vYes elt vs e).bind frF = .ok (.d (allT items.length)) := by
  rw [comp_map (fun _ => .bool true) hi hl h]
  unfold allT
  rw [List.map_replicate]
  congr 3
  clear h hl hi
  induction items with
  | nil => rfl
  | cons x items ih => rw [List.map_cons, ih]; rfl
@[simp] theorem all_tt {α : Type} (items : List α) : ((items.map fun _ => true).all id) = true := by
  rw [List.all_eq_true]; intro x m; obtain ⟨_, _, rfl⟩ := List.mem_map.mp m; rfl

end VL

set_option Elab.async false
set_option linter.all false
set_option maxRecDepth 100000
set_option maxHeartbeats 4000000
namespace VL
open PySem PySem.Spec PyProof.Rows L2

def longer (p : Nat) (rows : List (List Int)) : List (List Int) := rows.flatMap fun r => (List.range p).map fun (n : Nat) => r ++ [(n : Int)]
def rowsM (p : Nat) : Nat → List (List Int)
  | 0 => [[]]
  | k + 1 => longer p (rowsM p k)
def rowsD (rows : List (List Int)) : List (List PyData) := rows.map fun r => r.map .int
theorem rowsD_append (a b : List (List Int)) : rowsD (a ++ b) = rowsD a ++ rowsD b := by unfold rowsD; rw [List.map_append]
theorem rowsD_length (a : List (List Int)) : (rowsD a).length = a.length := by unfold rowsD; rw [List.length_map]
def rowsP (rows : List (List Int)) : PyData := .list (rows.map fun r => .list (r.map .int))
theorem rowsD_list (rows : List (List Int)) : PyData.list ((rowsD rows).map .list) = rowsP rows := by
  unfold rowsD rowsP; rw [List.map_map]; rfl
theorem take_succ' {α : Type} {l : List α} {j : Nat} {a : α} (h : l[j]? = some a) : l.take (j + 1) = l.take j ++ [a] := by
  rw [List.take_succ, h]; rfl
theorem rowsM_mem (p : Nat) : ∀ k, ∀ r ∈ rowsM p k, r.length = k ∧ ∀ c ∈ r, 0 ≤ c ∧ c < (p : Int)
  | 0, r, m => by
    have e : r = [] := by simpa [rowsM] using m
    subst e
    exact ⟨rfl, fun c m => by cases m⟩
  | k + 1, r, m => by
    have m' : r ∈ longer p (rowsM p k) := m
    unfold longer at m'
    obtain ⟨q, hq, m2⟩ := List.mem_flatMap.mp m'
    obtain ⟨n, hn, rfl⟩ := List.mem_map.mp m2
    obtain ⟨a, b⟩ := rowsM_mem p k q hq
    have nl := List.mem_range.mp hn
    refine ⟨by simp [a], fun c mc => ?_⟩
    rcases List.mem_append.mp mc with z | z
    · exact b c z
    · have e : c = (n : Int) := by simpa using z
      rw [e]; omega
end VL

set_option Elab.async false
set_option linter.all false
set_option maxRecDepth 100000
set_option maxHeartbeats 4000000
namespace VL
open PySem PySem.Spec PyProof.Rows L2

theorem step_nx {f g : ST} {e e' : Env} {R : Res FV} (h : f e = .nx e') (k : fin (g e') = R) : fin (vSeq f g e) = R := by
  rw [vSeq_ap, h]
  exact k
theorem step_wp {f g : ST} {e : Env} {P : Env → Prop} {R : Res FV} (h : (f e).wp P) (k : ∀ e', P e' → fin (g e') = R) : fin (vSeq f g e) = R := by
  rw [vSeq_ap]
  exact fin_wp (wp_imp h k)
end VL

set_option Elab.async false
set_option linter.all false
set_option maxRecDepth 100000
set_option maxHeartbeats 4000000
namespace VL
open PySem PySem.Spec PyProof.Rows L2

def quot (a : Int) : List Int → List Int
  | [] => []
  | [_] => []
  | _ :: e :: E => peval (e :: E) a :: quot a (e :: E)
theorem quot_length (a : Int) : ∀ D : List Int, (quot a D).length = D.length - 1
  | [] => rfl
  | [_] => rfl
  | _ :: e :: E => by
    show (quot a (e :: E)).length + 1 = _
    rw [quot_length a (e :: E)]
    simp
theorem quot_val (a x : Int) : ∀ D : List Int, peval D x = peval D a + (x - a) * peval (quot a D) x
  | [] => by show (0 : Int) = 0 + (x - a) * 0; omega
  | [d] => by
    show d + x * 0 = d + a * 0 + (x - a) * 0
    omega
  | d :: e :: E => by
    have ih := quot_val a x (e :: E)
    show d + x * peval (e :: E) x = d + a * peval (e :: E) a + (x - a) * (peval (e :: E) a + x * peval (quot a (e :: E)) x)
    rw [ih]
    grind
def Zr (p : Int) (D : List Int) : Prop := ∀ c ∈ D, Cg p c 0
theorem quot_zr (p a : Int) : ∀ D : List Int, Zr p (quot a D) → Cg p (peval D a) 0 → Zr p D
  | [], _, _ => fun c m => by cases m
  | [d], _, h => fun c m => by
    have e : c = d := by simpa using m
    subst e
    have h' : Cg p (c + a * 0) 0 := h
    rwa [Int.mul_zero, Int.add_zero] at h'
  | d :: e :: E, hq, h => by
    have h0 : Cg p (peval (e :: E) a) 0 := hq _ (List.mem_cons_self)
    have ih := quot_zr p a (e :: E) (fun c m => hq c (List.mem_cons_of_mem _ m)) h0
    intro c m
    rcases List.mem_cons.mp m with rfl | m
    · obtain ⟨k, hk⟩ := h0
      obtain ⟨j, hj⟩ := h
      have hj' : c + a * peval (e :: E) a = 0 + p * j := hj
      exact ⟨j - a * k, by rw [hk] at hj'; grind⟩
    · exact ih c m
theorem nz_diff {p h f x a b : Int} (t : Tb p h f) (hx : 0 ≤ x ∧ x < p) (ha : 0 ≤ a ∧ a < p) (hne : x ≠ a) (h0 : Cg p ((x - a) * b) 0) : Cg p b 0 := by
  rcases Int.lt_or_gt_of_ne hne with q | q
  · refine nz_mul t (a := a - x) (by omega) ?_
    obtain ⟨k, hk⟩ := h0
    exact ⟨-k, by grind⟩
  · exact nz_mul t (a := x - a) (by omega) h0
theorem roots_zr {p h f : Int} (t : Tb p h f) : ∀ (xs D : List Int), D.length ≤ xs.length → (∀ x ∈ xs, 0 ≤ x ∧ x < p) → xs.Pairwise (· ≠ ·) → (∀ x ∈ xs, Cg p (peval D x) 0) → Zr p D
  | [], D, hl, _, _, _ => by
    have e : D = [] := List.length_eq_zero_iff.mp (by simpa using hl)
    subst e
    exact fun c m => by cases m
  | a :: xs, D, hl, hr, hp, hz => by
    rw [List.pairwise_cons] at hp
    have h0 := hz a List.mem_cons_self
    refine quot_zr p a D ?_ h0
    refine roots_zr t xs (quot a D) (by rw [quot_length]; simp at hl; omega) (fun x m => hr x (List.mem_cons_of_mem _ m)) hp.2 fun x m => ?_
    refine nz_diff t (hr x (List.mem_cons_of_mem _ m)) (hr a List.mem_cons_self) (Ne.symm (hp.1 x m)) ?_
    obtain ⟨k, hk⟩ := h0
    obtain ⟨j, hj⟩ := hz x (List.mem_cons_of_mem _ m)
    have := quot_val a x D
    exact ⟨j - k, by rw [hk, hj] at this; grind⟩
def subL (F G : List Int) : List Int := (F.zip G).map fun x => x.1 - x.2
theorem subL_val (x : Int) : ∀ F G : List Int, F.length = G.length → peval (subL F G) x = peval F x - peval G x
  | [], [], _ => rfl
  | [], _ :: _, h => by cases h
  | _ :: _, [], h => by cases h
  | a :: F, b :: G, h => by
    have ih := subL_val x F G (by simpa using h)
    show a - b + x * peval (subL F G) x = a + x * peval F x - (b + x * peval G x)
    rw [ih]; grind
theorem flatMap_le {α β : Type} (f : α → List β) (m : Nat) : ∀ l : List α, (∀ a ∈ l, (f a).length ≤ m) → (l.flatMap f).length ≤ l.length * m
  | [], _ => by simp
  | a :: l, h => by
    rw [List.flatMap_cons, List.length_append, List.length_cons, Nat.succ_mul]
    have := flatMap_le f m l fun b mb => h b (List.mem_cons_of_mem _ mb)
    have := h a List.mem_cons_self
    omega
end VL

set_option Elab.async false
set_option linter.all false
set_option maxRecDepth 100000
set_option maxHeartbeats 4000000
namespace VL
open PySem PySem.Spec PyProof.Rows L2

def Flow.wr (f : Flow) (R : Res FV → Prop) (P : Env → Prop) : Prop := match f with
  | .nx e => P e
  | f => R (fin f)
@[simp] theorem wr_nx (e : Env) (R : Res FV → Prop) (P : Env → Prop) : (Flow.nx e).wr R P = P e := rfl
@[simp] theorem wr_rt (s : SV) (e : Env) (R : Res FV → Prop) (P : Env → Prop) : (Flow.rt s e).wr R P = R (frF s) := rfl
@[simp] theorem wr_err (c : Str) (e : Env) (R : Res FV → Prop) (P : Env → Prop) : (Flow.err c e).wr R P = R (.err c) := rfl
@[simp] theorem wr_andThen (f : Flow) (g : ST) (R : Res FV → Prop) (P : Env → Prop) : (f.andThen g).wr R P = f.wr R fun e => (g e).wr R P := by cases f <;> rfl
@[simp] theorem wr_ite (c : Prop) [Decidable c] (a b : Flow) (R : Res FV → Prop) (P : Env → Prop) : (if c then a else b).wr R P = if c then a.wr R P else b.wr R P := by split <;> rfl
structure PtOk (p : Int) (pts : List (Int × Int)) : Prop where
  rng : ∀ q ∈ pts, (0 ≤ q.1 ∧ q.1 < p) ∧ (0 ≤ q.2 ∧ q.2 < p)
  up : pts.Pairwise fun a b => a.1 < b.1
theorem up_dist {pts : List (Int × Int)} (up : pts.Pairwise fun a b => a.1 < b.1) : DistX pts := fun j k q r hj hk hne he => by
  obtain ⟨jl, ej⟩ := List.getElem?_eq_some_iff.mp hj
  obtain ⟨kl, ek⟩ := List.getElem?_eq_some_iff.mp hk
  subst ej ek
  rcases Nat.lt_or_gt_of_ne hne with h | h
  · have := (List.pairwise_iff_getElem.mp up) _ _ jl kl h; omega
  · have := (List.pairwise_iff_getElem.mp up) _ _ kl jl h; omega
end VL

set_option Elab.async false
set_option linter.all false
set_option maxRecDepth 100000
set_option maxHeartbeats 4000000
namespace VL
open PySem PySem.Spec PyProof.Rows L2

end VL

set_option Elab.async false
set_option linter.all false
set_option maxRecDepth 100000
set_option maxHeartbeats 4000000
namespace VL
open PySem PySem.Spec PyProof.Rows L2

def addC (c : Int) (F G : List Int) : List Int := (F.zip G).map fun x => x.1 + c * x.2
theorem addC_length (c : Int) (F G : List Int) (h : F.length = G.length) : (addC c F G).length = F.length := by unfold addC; simp [h]
theorem addC_val (c x : Int) : ∀ F G : List Int, F.length = G.length → peval (addC c F G) x = peval F x + c * peval G x
  | [], [], _ => by show (0 : Int) = 0 + c * 0; omega
  | [], _ :: _, h => by cases h
  | _ :: _, [], h => by cases h
  | a :: F, b :: G, h => by
    have ih := addC_val c x F G (by simpa using h)
    show a + c * b + x * peval (addC c F G) x = a + x * peval F x + c * (b + x * peval G x)
    rw [ih]; grind
theorem zr_val {p x : Int} : ∀ D : List Int, Zr p D → Cg p (peval D x) 0
  | [], _ => Cg.refl _ _
  | d :: D, h => by
    have a := h d List.mem_cons_self
    have b := zr_val (x := x) D fun c m => h c (List.mem_cons_of_mem _ m)
    have := a.add ((Cg.refl p x).mul b)
    rw [Int.mul_zero, Int.add_zero] at this
    exact this
end VL

set_option Elab.async false
set_option linter.all false
set_option maxRecDepth 100000
set_option maxHeartbeats 4000000
namespace VL
open PySem PySem.Spec PyProof.Rows L2

end VL

set_option Elab.async false
set_option linter.all false
set_option maxRecDepth 100000
set_option maxHeartbeats 4000000
namespace VL
open PySem PySem.Spec PyProof.Rows L2

end VL

set_option Elab.async false
set_option linter.all false
set_option maxRecDepth 100000
set_option maxHeartbeats 4000000
namespace VL
open PySem PySem.Spec PyProof.Rows L2

structure Sok (p h : Int) (S : List (Option Int)) : Prop where
  len : S.length = h.toNat
  rng : ∀ v, some v ∈ S → 0 ≤ v ∧ v < p
theorem Sok.set {p h : Int} {S : List (Option Int)} (s : Sok p h S) (i : Nat) {o : Option Int} (ho : ∀ v, o = some v → 0 ≤ v ∧ v < p) : Sok p h (S.set i o) :=
  ⟨by rw [List.length_set, s.len], fun v m => by
    rcases List.mem_or_eq_of_mem_set m with z | z
    · exact s.rng v z
    · exact ho v z.symm⟩
end VL

set_option Elab.async false
set_option linter.all false
set_option maxRecDepth 100000
set_option maxHeartbeats 4000000
namespace VL
open PySem PySem.Spec PyProof.Rows L2

theorem compL_lst {α : Type} {g : Tgt} {t : FT} {elt : FO} {e : Env} (D : α → PyData) (P : α → Bool) (G : α → SV) : ∀ {L : List α}, (∀ a ∈ L, ∃ e1, g (D a) e = some e1 ∧ t e1 = .ok (P a) ∧ (P a = true → elt e1 = .ok (G a))) → compL g t elt e (L.map D) = .ok ((L.filter P).map G)
  | [], _ => rfl
  | x :: L, h => by
    obtain ⟨e1, h1, h2, h3⟩ := h x List.mem_cons_self
    have ih := compL_lst D P G (L := L) fun y m => h y (List.mem_cons_of_mem _ m)
    show (match g (D x) e with | none => Res.bad | some e1 => (noE (t e1)).bind fun b => if b = true then (noE (elt e1)).bind fun y => (compL g t elt e (L.map D)).bind fun ys => .ok (y :: ys) else compL g t elt e (L.map D)) = _
    rw [h1]
    dsimp only
    rw [h2, noE_ok', bind_ok]
    by_cases hp : P x = true
    · rw [if_pos hp, h3 hp, noE_ok', bind_ok, ih, bind_ok, List.filter_cons_of_pos hp]
      rfl
    · rw [if_neg hp, ih, List.filter_cons_of_neg hp]
theorem compL_idx {α : Type} {g : Tgt} {elt : FO} {e : Env} (D : α → PyData) (G : Nat → α → SV) : ∀ (L : List α) (k : Nat), (∀ i a, L[i]? = some a → ∃ e1, g (.tuple [.int ((k + i : Nat) : Int), D a]) e = some e1 ∧ elt e1 = .ok (G (k + i) a)) → compL g vYes elt e (enumP k (L.map D)) = .ok (L.mapIdx fun i a => G (k + i) a)
  | [], _, _ => rfl
  | x :: L, k, h => by
    obtain ⟨e1, h1, h2⟩ := h 0 x rfl
    have ih := compL_idx D G L (k + 1) fun i a hi => by
      have := h (i + 1) a (by simpa using hi)
      rwa [show k + (i + 1) = k + 1 + i by omega] at this
    show (match g (.tuple [.int (k : Int), D x]) e with | none => Res.bad | some e1 => (noE (vYes e1)).bind fun b => if b = true then (noE (elt e1)).bind fun y => (compL g vYes elt e (enumP (k + 1) (L.map D))).bind fun ys => .ok (y :: ys) else compL g vYes elt e (enumP (k + 1) (L.map D))) = _
    have h1' : g (.tuple [.int (k : Int), D x]) e = some e1 := h1
    rw [h1']
    dsimp only
    rw [vYes_ap, noE_ok', bind_ok, if_pos rfl, h2, noE_ok', bind_ok, ih, bind_ok, List.mapIdx_cons]
    congr 3
    funext i a
    rw [show k + 1 + i = k + (i + 1) by omega]
theorem comp_lstT {α : Type} {it : IT} {g : Tgt} {t : FT} {elt : FO} {vs : List Nat} {e : Env} (L : List α) (D : α → PyData) (P : α → Bool) (G : α → SV) (hi : it e = .ok (L.map D)) (hl : L.length ≤ 16777216)
    (h : ∀ a ∈ L, ∃ e1, g (D a) (wipeE e vs) = some e1 ∧ t e1 = .ok (P a) ∧ (P a = true → elt e1 = .ok (G a))) : vComp it g t elt vs e = .ok (.own ((L.filter P).map G)) := by
  rw [vComp_ap, hi, bind_ok, cIf_pos (by rw [List.length_map]; exact hl), compL_lst D P G h, bind_ok]
theorem comp_idxT {α : Type} {it : IT} {g : Tgt} {elt : FO} {vs : List Nat} {e : Env} (L : List α) (D : α → PyData) (G : Nat → α → SV) (hi : it e = .ok (enumP 0 (L.map D))) (hl : L.length ≤ 16777216)
    (h : ∀ (i : Nat) (a : α), L[i]? = some a → ∃ e1, g (.tuple [.int (i : Int), D a]) (wipeE e vs) = some e1 ∧ elt e1 = .ok (G i a)) : vComp it g vYes elt vs e = .ok (.own (L.mapIdx G)) := by
  rw [vComp_ap, hi, bind_ok, cIf_pos (by rw [enumP_length, List.length_map]; exact hl), compL_idx D G L 0 fun i a hi => by simpa using h i a hi, bind_ok]
  congr 2
  congr 1
  funext i a
  rw [Nat.zero_add]
theorem elt_leaf {elt : FO} {e : Env} {p : PyData} (hp : flatP p = true) (h : (elt e).bind frF = .ok (.d p)) : elt e = .ok (.f (.d p)) := by
  cases z : elt e with
  | ok s => rw [z] at h; rw [frF_flat hp h]
  | err c => rw [z] at h; cases h
  | bad => rw [z] at h; cases h
theorem mapIdx_dl {α : Type} (L : List α) (G : Nat → α → PyData) : SV.own (L.mapIdx fun i a => SV.f (.d (G i a))) = SV.dl (L.mapIdx G) := by
  unfold SV.dl
  congr 1
  refine List.ext_getElem (by simp) fun i h1 h2 => ?_
  simp
theorem map_dl {α : Type} (L : List α) (G : α → PyData) : SV.own (L.map fun a => SV.f (.d (G a))) = SV.dl (L.map G) := by
  unfold SV.dl
  rw [List.map_map]
  rfl
@[simp] theorem sok_in : PyData.strOk (Str.ofString "in") = true := by decide +kernel
@[simp] theorem sok_fix : PyData.strOk (Str.ofString "fix") = true := by decide +kernel
@[simp] theorem sok_by : PyData.strOk (Str.ofString "by") = true := by decide +kernel
@[simp] theorem sok_sum : PyData.strOk (Str.ofString "sum") = true := by decide +kernel
@[simp] theorem sok_less : PyData.strOk (Str.ofString "less") = true := by decide +kernel
@[simp] theorem sok_mul : PyData.strOk (Str.ofString "mul") = true := by decide +kernel
@[simp] theorem sok_anew : PyData.strOk (Str.ofString "anew") = true := by decide +kernel
@[simp] theorem sok_open : PyData.strOk (Str.ofString "open") = true := by decide +kernel
@[simp] theorem w_in_fix : (Str.ofString "in" = Str.ofString "fix") = False := eq_false (by decide +kernel)
@[simp] theorem w_in_by : (Str.ofString "in" = Str.ofString "by") = False := eq_false (by decide +kernel)
@[simp] theorem w_in_sum : (Str.ofString "in" = Str.ofString "sum") = False := eq_false (by decide +kernel)
@[simp] theorem w_in_less : (Str.ofString "in" = Str.ofString "less") = False := eq_false (by decide +kernel)
@[simp] theorem w_in_mul : (Str.ofString "in" = Str.ofString "mul") = False := eq_false (by decide +kernel)
@[simp] theorem w_in_anew : (Str.ofString "in" = Str.ofString "anew") = False := eq_false (by decide +kernel)
@[simp] theorem w_in_open : (Str.ofString "in" = Str.ofString "open") = False := eq_false (by decide +kernel)
@[simp] theorem w_fix_in : (Str.ofString "fix" = Str.ofString "in") = False := eq_false (by decide +kernel)
@[simp] theorem w_fix_by : (Str.ofString "fix" = Str.ofString "by") = False := eq_false (by decide +kernel)
@[simp] theorem w_fix_sum : (Str.ofString "fix" = Str.ofString "sum") = False := eq_false (by decide +kernel)
@[simp] theorem w_fix_less : (Str.ofString "fix" = Str.ofString "less") = False := eq_false (by decide +kernel)
@[simp] theorem w_fix_mul : (Str.ofString "fix" = Str.ofString "mul") = False := eq_false (by decide +kernel)
@[simp] theorem w_fix_anew : (Str.ofString "fix" = Str.ofString "anew") = False := eq_false (by decide +kernel)
@[simp] theorem w_fix_open : (Str.ofString "fix" = Str.ofString "open") = False := eq_false (by decide +kernel)
@[simp] theorem w_by_in : (Str.ofString "by" = Str.ofString "in") = False := eq_false (by decide +kernel)
@[simp] theorem w_by_fix : (Str.ofString "by" = Str.ofString "fix") = False := eq_false (by decide +kernel)
@[simp] theorem w_by_sum : (Str.ofString "by" = Str.ofString "sum") = False := eq_false (by decide +kernel)
@[simp] theorem w_by_less : (Str.ofString "by" = Str.ofString "less") = False := eq_false (by decide +kernel)
@[simp] theorem w_by_mul : (Str.ofString "by" = Str.ofString "mul") = False := eq_false (by decide +kernel)
@[simp] theorem w_by_anew : (Str.ofString "by" = Str.ofString "anew") = False := eq_false (by decide +kernel)
@[simp] theorem w_by_open : (Str.ofString "by" = Str.ofString "open") = False := eq_false (by decide +kernel)
@[simp] theorem w_sum_in : (Str.ofString "sum" = Str.ofString "in") = False := eq_false (by decide +kernel)
@[simp] theorem w_sum_fix : (Str.ofString "sum" = Str.ofString "fix") = False := eq_false (by decide +kernel)
@[simp] theorem w_sum_by : (Str.ofString "sum" = Str.ofString "by") = False := eq_false (by decide +kernel)
@[simp] theorem w_sum_less : (Str.ofString "sum" = Str.ofString "less") = False := eq_false (by decide +kernel)
@[simp] theorem w_sum_mul : (Str.ofString "sum" = Str.ofString "mul") = False := eq_false (by decide +kernel)
@[simp] theorem w_sum_anew : (Str.ofString "sum" = Str.ofString "anew") = False := eq_false (by decide +kernel)
@[simp] theorem w_sum_open : (Str.ofString "sum" = Str.ofString "open") = False := eq_false (by decide +kernel)
@[simp] theorem w_less_in : (Str.ofString "less" = Str.ofString "in") = False := eq_false (by decide +kernel)
@[simp] theorem w_less_fix : (Str.ofString "less" = Str.ofString "fix") = False := eq_false (by decide +kernel)
@[simp] theorem w_less_by : (Str.ofString "less" = Str.ofString "by") = False := eq_false (by decide +kernel)
@[simp] theorem w_less_sum : (Str.ofString "less" = Str.ofString "sum") = False := eq_false (by decide +kernel)
@[simp] theorem w_less_mul : (Str.ofString "less" = Str.ofString "mul") = False := eq_false (by decide +kernel)
@[simp] theorem w_less_anew : (Str.ofString "less" = Str.ofString "anew") = False := eq_false (by decide +kernel)
@[simp] theorem w_less_open : (Str.ofString "less" = Str.ofString "open") = False := eq_false (by decide +kernel)
@[simp] theorem w_mul_in : (Str.ofString "mul" = Str.ofString "in") = False := eq_false (by decide +kernel)
@[simp] theorem w_mul_fix : (Str.ofString "mul" = Str.ofString "fix") = False := eq_false (by decide +kernel)
@[simp] theorem w_mul_by : (Str.ofString "mul" = Str.ofString "by") = False := eq_false (by decide +kernel)
@[simp] theorem w_mul_sum : (Str.ofString "mul" = Str.ofString "sum") = False := eq_false (by decide +kernel)
@[simp] theorem w_mul_less : (Str.ofString "mul" = Str.ofString "less") = False := eq_false (by decide +kernel)
@[simp] theorem w_mul_anew : (Str.ofString "mul" = Str.ofString "anew") = False := eq_false (by decide +kernel)
@[simp] theorem w_mul_open : (Str.ofString "mul" = Str.ofString "open") = False := eq_false (by decide +kernel)
@[simp] theorem w_anew_in : (Str.ofString "anew" = Str.ofString "in") = False := eq_false (by decide +kernel)
@[simp] theorem w_anew_fix : (Str.ofString "anew" = Str.ofString "fix") = False := eq_false (by decide +kernel)
@[simp] theorem w_anew_by : (Str.ofString "anew" = Str.ofString "by") = False := eq_false (by decide +kernel)
@[simp] theorem w_anew_sum : (Str.ofString "anew" = Str.ofString "sum") = False := eq_false (by decide +kernel)
@[simp] theorem w_anew_less : (Str.ofString "anew" = Str.ofString "less") = False := eq_false (by decide +kernel)
@[simp] theorem w_anew_mul : (Str.ofString "anew" = Str.ofString "mul") = False := eq_false (by decide +kernel)
@[simp] theorem w_anew_open : (Str.ofString "anew" = Str.ofString "open") = False := eq_false (by decide +kernel)
@[simp] theorem w_open_in : (Str.ofString "open" = Str.ofString "in") = False := eq_false (by decide +kernel)
@[simp] theorem w_open_fix : (Str.ofString "open" = Str.ofString "fix") = False := eq_false (by decide +kernel)
@[simp] theorem w_open_by : (Str.ofString "open" = Str.ofString "by") = False := eq_false (by decide +kernel)
@[simp] theorem w_open_sum : (Str.ofString "open" = Str.ofString "sum") = False := eq_false (by decide +kernel)
@[simp] theorem w_open_less : (Str.ofString "open" = Str.ofString "less") = False := eq_false (by decide +kernel)
@[simp] theorem w_open_mul : (Str.ofString "open" = Str.ofString "mul") = False := eq_false (by decide +kernel)
@[simp] theorem w_open_anew : (Str.ofString "open" = Str.ofString "anew") = False := eq_false (by decide +kernel)
inductive Op where
  | inn (hand : Int)
  | fix (n : Int)
  | byy (a n : Int)
  | sum (a b : Int)
  | less (a b : Int)
  | mul (a b : Int)
  | anew (a : Int)
  | opn (a : Int)
def Op.D : Op → PyData
  | .inn hd => .tuple [.str "in", .int hd]
  | .fix n => .tuple [.str "fix", .int n]
  | .byy a n => .tuple [.str "by", .int a, .int n]
  | .sum a b => .tuple [.str "sum", .int a, .int b]
  | .less a b => .tuple [.str "less", .int a, .int b]
  | .mul a b => .tuple [.str "mul", .int a, .int b]
  | .anew a => .tuple [.str "anew", .int a]
  | .opn a => .tuple [.str "open", .int a]
def Op.ok (p h at_ : Int) : Op → Bool
  | .inn hd => decide (1 ≤ hd) && decide (hd ≤ h)
  | .fix n => decide (0 ≤ n) && decide (n < p)
  | .byy a n => (decide (0 ≤ a) && decide (a < at_)) && (decide (0 ≤ n) && decide (n < p))
  | .sum a b => (decide (0 ≤ a) && decide (a < at_)) && (decide (0 ≤ b) && decide (b < at_))
  | .less a b => (decide (0 ≤ a) && decide (a < at_)) && (decide (0 ≤ b) && decide (b < at_))
  | .mul a b => (decide (0 ≤ a) && decide (a < at_)) && (decide (0 ≤ b) && decide (b < at_))
  | .anew a => decide (0 ≤ a) && decide (a < at_)
  | .opn a => decide (0 ≤ a) && decide (a < at_)
@[simp] theorem run_is_number (p h f n : Int) : run S_is_number [tbl p h f, .d (.int n)] = .ok (.d (.bool (decide (0 ≤ n) && decide (n < p)))) := by
  unfold S_is_number B_is_number
  rw [run_mk]
  by_cases a : 0 ≤ n <;> by_cases b : n < p <;> simp [a, b]
theorem ix2_0 (a b : PyData) : atI ([a, b] : List PyData) 0 = some a := rfl
theorem ix2_1 (a b : PyData) : atI ([a, b] : List PyData) 1 = some b := rfl
theorem ix3_0 (a b c : PyData) : atI ([a, b, c] : List PyData) 0 = some a := rfl
theorem ix3_1 (a b c : PyData) : atI ([a, b, c] : List PyData) 1 = some b := rfl
theorem ix3_2 (a b c : PyData) : atI ([a, b, c] : List PyData) 2 = some c := rfl
theorem inV_w (x : Str) (ws : List Str) : inV (.str x) (ws.map fun i => V.str i) = decide (x ∈ ws) := by
  induction ws with
  | nil => rfl
  | cons n ns ih =>
    have e : inV (.str x) ((n :: ns).map fun i => V.str i) = ((n == x) || inV (.str x) (ns.map fun i => V.str i)) := rfl
    rw [e, ih]
    by_cases q : n = x
    · subst q; simp
    · have q' : ¬ x = n := fun z => q z.symm
      simp [q, q']
theorem in_w (x : Str) (ws : List Str) : Cop.h .isin (.str x) (.tuple (ws.map .str)) = .ok (.d (.bool (decide (x ∈ ws)))) := by
  show inP false (.str x) (.tuple (ws.map .str)) = _
  unfold inP
  dsimp only
  rw [if_pos ⟨rfl, by
    rw [List.all_eq_true]
    intro y m
    obtain ⟨i, _, rfl⟩ := List.mem_map.mp m
    rfl⟩]
  rw [show (ws.map PyData.str).map toV = ws.map fun i => V.str i by rw [List.map_map]; rfl]
  show Res.ok (FV.d (.bool (inV (.str x) _))) = _
  rw [inV_w]
theorem in_w2 (x a b : Str) : Cop.h .isin (.str x) (.tuple [.str a, .str b]) = .ok (.d (.bool (decide (x = a) || decide (x = b)))) := by
  exact (in_w x [a, b]).trans (by simp)
theorem run_step_right (p h f at_ : Int) (o : Op) : run S_step_right [tbl p h f, .d o.D, .d (.int at_)] = .ok (.d (.bool (o.ok p h at_))) := by
  unfold S_step_right B_step_right
  rw [run_mk]
  cases o with
  | inn hd =>
    unfold Op.D Op.ok
    by_cases a : 1 ≤ hd <;> by_cases b : hd ≤ h <;> simp (disch := first | rfl | assumption | omega | simp [*]) [ix2_0, ix2_1, ix3_0, ix3_1, ix3_2, a, b]
  | fix n =>
    unfold Op.D Op.ok
    simp (disch := first | rfl | assumption | omega | simp [*]) [ix2_0, ix2_1, ix3_0, ix3_1, ix3_2]
  | byy a n =>
    unfold Op.D Op.ok
    by_cases c : 0 ≤ a <;> by_cases d : a < at_ <;> simp (disch := first | rfl | assumption | omega | simp [*]) [ix2_0, ix2_1, ix3_0, ix3_1, ix3_2, c, d]
  | sum a b =>
    unfold Op.D Op.ok
    by_cases c : 0 ≤ a <;> by_cases d : a < at_ <;> by_cases c' : 0 ≤ b <;> by_cases d' : b < at_ <;> simp (disch := first | rfl | assumption | omega | simp [*]) [ix2_0, ix2_1, ix3_0, ix3_1, ix3_2, c, d, c', d', in_w2]
  | less a b =>
    unfold Op.D Op.ok
    by_cases c : 0 ≤ a <;> by_cases d : a < at_ <;> by_cases c' : 0 ≤ b <;> by_cases d' : b < at_ <;> simp (disch := first | rfl | assumption | omega | simp [*]) [ix2_0, ix2_1, ix3_0, ix3_1, ix3_2, c, d, c', d', in_w2]
  | mul a b =>
    unfold Op.D Op.ok
    by_cases c : 0 ≤ a <;> by_cases d : a < at_ <;> by_cases c' : 0 ≤ b <;> by_cases d' : b < at_ <;> simp (disch := first | rfl | assumption | omega | simp [*]) [ix2_0, ix2_1, ix3_0, ix3_1, ix3_2, c, d, c', d', in_w2]
  | anew a =>
    unfold Op.D Op.ok
    by_cases c : 0 ≤ a <;> by_cases d : a < at_ <;> simp (disch := first | rfl | assumption | omega | simp [*]) [ix2_0, ix2_1, ix3_0, ix3_1, ix3_2, c, d, in_w2]
  | opn a =>
    unfold Op.D Op.ok
    by_cases c : 0 ≤ a <;> by_cases d : a < at_ <;> simp (disch := first | rfl | assumption | omega | simp [*]) [ix2_0, ix2_1, ix3_0, ix3_1, ix3_2, c, d, in_w2]
def opsD (os : List Op) : PyData := .list (os.map Op.D)
def okL (p h : Int) (os : List Op) : Bool := (os.mapIdx fun i o => o.ok p h i).all id
def rightM (p h : Int) (os : List Op) : Bool := (decide (1 ≤ os.length) && decide (os.length ≤ 24)) && okL p h os
theorem run_right (p h f : Int) (os : List Op) (hl : os.length < 1000) : run S_right [tbl p h f, .d (opsD os)] = .ok (.d (.bool (rightM p h os))) := by
  unfold S_right B_right rightM opsD okL
  rw [run_mk]
  by_cases a : 1 ≤ os.length
  · by_cases b : os.length ≤ 24
    · have a' : (1 : Int) ≤ os.length := by omega
      have b' : (os.length : Int) ≤ 24 := by omega
      simp (disch := first | rfl | assumption | omega | simp [*]) [a, b, a', b']
      rw [comp_idxT os Op.D (fun i o => .f (.d (.bool (o.ok p h i))))]
      · rw [mapIdx_dl os fun i o => .bool (o.ok p h i)]
        rw [show (os.mapIdx fun i o => PyData.bool (o.ok p h i)) = (os.mapIdx fun i o => o.ok p h i).map .bool from by
          refine List.ext_getElem (by simp) fun i h1 h2 => ?_
          simp]
        simp
      · simp [Function.comp_def]
      · omega
      · intro i o hi
        refine ⟨[.va (.f (tbl p h f)), .va (.f (.d (.list (os.map Op.D)))), .va (.f (.d (.int i))), .va (.f (.d o.D))], by simp, ?_⟩
        refine elt_leaf rfl ?_
        have := run_step_right p h f i o
        simp (disch := first | rfl | assumption | omega | simp [*]) [this]
    · have b' : ¬ (os.length : Int) ≤ 24 := by omega
      have a' : (1 : Int) ≤ os.length := by omega
      simp (disch := first | rfl | assumption | omega | simp [*]) [a, b, a', b']
  · have a' : ¬ (1 : Int) ≤ os.length := by omega
    simp (disch := first | rfl | assumption | omega | simp [*]) [a, a']
theorem run_check_steps (p h f : Int) (os : List Op) (hl : os.length < 1000) : run S_check_steps [tbl p h f, .d (opsD os)] = if rightM p h os = true then .ok (.d .none) else .err "BadSteps" := by
  unfold S_check_steps B_check_steps
  rw [run_mk]
  have := run_right p h f os hl
  cases z : rightM p h os <;> simp (disch := first | rfl | assumption | omega | simp [*]) [this, z]
def Op.needs (h f : Int) : Op → Int
  | .inn _ => f
  | .mul _ _ => f * h
  | .anew _ => f * h
  | _ => 0
theorem run_step_needs (p h f : Int) (o : Op) (hf : 0 ≤ f ∧ f ≤ 2) : run S_step_needs [tbl p h f, .d o.D] = .ok (.d (.int (o.needs h f))) := by
  unfold S_step_needs B_step_needs
  rw [run_mk]
  cases o <;> (unfold Op.D Op.needs; simp (disch := first | rfl | assumption | omega | simp [*]) [ix2_0, ix2_1, ix3_0, ix3_1, ix3_2, in_w2])
def needsM (h f : Int) (os : List Op) : Int := (os.map fun o => o.needs h f).sum
theorem run_needs (p h f : Int) (os : List Op) (hl : os.length < 1000) (hf : 0 ≤ f ∧ f ≤ 2) : run S_needs [tbl p h f, .d (opsD os)] = if rightM p h os = true then .ok (.d (.int (needsM h f os))) else .err "BadSteps" := by
  unfold S_needs B_needs
  rw [run_mk, vSeq_ap]
  have hc := run_check_steps p h f os hl
  by_cases hr : rightM p h os = true
  · rw [if_pos hr] at hc ⊢
    rw [drop_ok (xs := [tbl p h f, .d (opsD os)]) rfl hc, andThen_nx]
    simp (disch := first | rfl | assumption | omega | simp [*])
    rw [comp_lstT os Op.D (fun _ => true) (fun o => .f (.d (.int (o.needs h f))))]
    · rw [List.filter_eq_self.mpr (fun _ _ => rfl), map_dl os fun o => .int (o.needs h f)]
      rw [show (os.map fun o => PyData.int (o.needs h f)) = (os.map fun o => o.needs h f).map .int by rw [List.map_map]; rfl]
      simp [-List.map_map]
      rfl
    · simp [opsD]
    · omega
    · intro o _
      refine ⟨_, gN_ap (t := .no) rfl rfl, rfl, fun _ => elt_leaf rfl ?_⟩
      have := run_step_needs p h f o hf
      simp (disch := first | rfl | assumption | omega | simp [*]) [this]
  · rw [if_neg hr] at hc ⊢
    rw [drop_err (xs := [tbl p h f, .d (opsD os)]) rfl hc]
    rfl
end VL

set_option Elab.async false
set_option linter.all false
set_option maxRecDepth 100000
set_option maxHeartbeats 4000000
namespace VL
open PySem PySem.Spec PyProof.Rows L2

def opBy (c at_ p h : Int) : Op :=
  let way := mixM c 1 9
  if at_ = 0 ∨ way < 2 then .inn (1 + mixM c 2 h)
  else if way = 2 then .fix (mixM c 5 p)
  else if way = 3 then .byy (mixM c 3 at_) (mixM c 5 p)
  else if way = 4 then .sum (mixM c 3 at_) (mixM c 4 at_)
  else if way = 5 then .less (mixM c 3 at_) (mixM c 4 at_)
  else if way = 6 then .mul (mixM c 3 at_) (mixM c 4 at_)
  else if way = 7 then .anew (mixM c 3 at_)
  else .opn (mixM c 3 at_)
theorem opBy_ok {c at_ p h : Int} (ha : 0 ≤ at_) (hp : 0 < p) (hh : 0 < h) : (opBy c at_ p h).ok p h at_ = true := by
  have m2 := mixM_lt c 2 hh
  have m5 := mixM_lt c 5 hp
  unfold opBy
  dsimp only
  by_cases a : at_ = 0 ∨ mixM c 1 9 < 2
  · rw [if_pos a]
    simp only [Op.ok, Bool.and_eq_true, decide_eq_true_iff]
    omega
  · rw [if_neg a]
    have m3 := mixM_lt c 3 (show 0 < at_ by omega)
    have m4 := mixM_lt c 4 (show 0 < at_ by omega)
    repeat' split
    all_goals (simp only [Op.ok, Bool.and_eq_true, decide_eq_true_iff]; omega)
theorem runO_step_by (c at_ p h f : Int) (ha : 0 ≤ at_) (hp : 0 < p) (hh : 0 < h) : runO S__law_step_by [.d (.int c), .d (.int at_), tbl p h f] = .ok (.f (.d (opBy c at_ p h).D)) := by
  unfold S__law_step_by B__law_step_by opBy
  rw [runO_mk]
  have w1 := mixM_lt c 1 (show (0 : Int) < 9 by omega)
  have r1 := run_mix c 1 9 (by omega)
  have r2 := run_mix c 2 h hh
  generalize mixM c 1 9 = way at *
  dsimp only
  by_cases a : at_ = 0
  · simp (disch := first | rfl | assumption | omega | simp [*]) [r1, r2, a]
    rfl
  · have ap : 0 < at_ := by omega
    have r3 := run_mix c 3 at_ ap
    have r4 := run_mix c 4 at_ ap
    have r5 := run_mix c 5 p hp
    generalize mixM c 3 at_ = one at *
    generalize mixM c 4 at_ = two at *
    generalize mixM c 5 p = number at *
    generalize mixM c 2 h = hd at *
    by_cases b : way < 2
    · simp (disch := first | rfl | assumption | omega | simp [*]) [r1, r2, a, b]
      rfl
    · have cs : way = 2 ∨ way = 3 ∨ way = 4 ∨ way = 5 ∨ way = 6 ∨ way = 7 ∨ way = 8 := by omega
      have b1 : ∀ a b : PyData, atI ([a, b] : List PyData) (4 - 4) = some a := fun a b => rfl
      have b2 : ∀ a b : PyData, atI ([a, b] : List PyData) (5 - 4) = some b := fun a b => rfl
      have b3 : ∀ a b : PyData, atI ([a, b] : List PyData) (7 - 7) = some a := fun a b => rfl
      have b4 : ∀ a b : PyData, atI ([a, b] : List PyData) (8 - 7) = some b := fun a b => rfl
      rcases cs with rfl | rfl | rfl | rfl | rfl | rfl | rfl <;>
        (simp (disch := first | rfl | assumption | omega | simp [*]) [r1, r2, r3, r4, r5, a, ix2_0, ix2_1, b1, b2, b3, b4]; rfl)
def opsBy (ns : List Int) (start many p h : Int) : List Op := (List.range many.toNat).map fun (k : Nat) => opBy (cellAt ns (start + (k : Int))) k p h
theorem opsBy_length (ns : List Int) (start many p h : Int) : (opsBy ns start many p h).length = many.toNat := by unfold opsBy; simp
theorem opsBy_ok (ns : List Int) (start many p h : Int) (hp : 0 < p) (hh : 0 < h) : okL p h (opsBy ns start many p h) = true := by
  unfold okL
  rw [List.all_eq_true]
  intro b m
  obtain ⟨i, hi, rfl⟩ := List.mem_mapIdx.mp m
  have := opBy_ok (c := cellAt ns (start + (i : Int))) (at_ := i) (p := p) (h := h) (by omega) hp hh
  simpa [opsBy] using this
def opsT (os : List Op) : SV := SV.dl (os.map Op.D)
theorem runO_steps_by (ns : List Int) (start many p h f : Int) (hs : 0 ≤ start) (hm : 0 ≤ many) (hm2 : many < 1000) (hp : 0 < p) (hh : 0 < h) :
    runO S__law_steps_by [.sc ns, .d (.int start), .d (.int many), tbl p h f] = .ok (opsT (opsBy ns start many p h)) := by
  unfold S__law_steps_by B__law_steps_by
  rw [runO_mk, vRet_ap, finO_ret]
  rw [comp_lstT (List.range many.toNat) (fun (k : Nat) => .int (k : Int)) (fun _ => true) (fun (k : Nat) => .f (.d (opBy (cellAt ns (start + (k : Int))) k p h).D))]
  · rw [List.filter_eq_self.mpr (fun _ _ => rfl), map_dl]
    unfold opsT opsBy
    rw [List.map_map]
    rfl
  · simp (disch := first | rfl | assumption | omega | simp [*])
    unfold rngP
    simp
  · rw [List.length_range]; omega
  · intro k _
    refine ⟨_, gN_ap (t := .no) rfl rfl, rfl, fun _ => ?_⟩
    rw [vCall_raw]
    have := runO_step_by (cellAt ns (start + (k : Int))) k p h f (by omega) hp hh
    simp (disch := first | rfl | assumption | omega | simp [*]) [this]
def nth3 (a b c k : Int) : Int := if k % 3 = 0 then a else if k % 3 = 1 then b else c
theorem at3 (a b c k : Int) : atI ([.int a, .int b, .int c] : List PyData) (k % 3) = some (.int (nth3 a b c k)) := by
  have h0 := Int.emod_nonneg k (show (3 : Int) ≠ 0 by omega)
  have h1 := Int.emod_lt_of_pos k (show (0 : Int) < 3 by omega)
  unfold nth3
  have cs : k % 3 = 0 ∨ k % 3 = 1 ∨ k % 3 = 2 := by omega
  rcases cs with e | e | e <;> rw [e] <;> rfl
end VL

set_option Elab.async false
set_option linter.all false
set_option maxRecDepth 100000
set_option maxHeartbeats 4000000
namespace VL
open PySem PySem.Spec PyProof.Rows L2

@[simp] theorem isI_bb (b : Bool) : isI .bool (.bool b) = true := rfl
theorem vDG3_ap (k1 k2 k3 : Str) (f1 f2 f3 : FP) (g : FD) (d : FP) (e : Env) : vDG3 k1 k2 k3 f1 f2 f3 g d e = (f1 e).bind fun x1 => (f2 e).bind fun x2 => (f3 e).bind fun x3 => (g e).bind fun s => (d e).bind fun y => dg3 k1 k2 k3 x1 x2 x3 y s := rfl
theorem dg3_s (k1 k2 k3 s : Str) (x1 x2 x3 y : FV) : dg3 k1 k2 k3 x1 x2 x3 y (.str s) = .ok (if s = k1 then x1 else if s = k2 then x2 else if s = k3 then x3 else y) := rfl
theorem needsM_append (h f : Int) (a b : List Op) : needsM h f (a ++ b) = needsM h f a + needsM h f b := by
  unfold needsM
  rw [List.map_append, List.sum_append]
theorem needs_rng (h f : Int) (hh : 0 ≤ h ∧ h ≤ 7) (hf : 0 ≤ f ∧ f ≤ 2) (o : Op) : 0 ≤ o.needs h f ∧ o.needs h f ≤ 14 := by
  have : 0 ≤ f * h ∧ f * h ≤ 14 := by
    have cs : f = 0 ∨ f = 1 ∨ f = 2 := by omega
    rcases cs with rfl | rfl | rfl <;> omega
  cases o <;> simp only [Op.needs] <;> omega
theorem run_lneeds (p h f : Int) (os : List Op) (hf : 0 ≤ f ∧ f ≤ 2) : run S__law_needs [.d (opsD os), tbl p h f] = .ok (.d (.int (needsM h f os))) := by
  unfold S__law_needs B__law_needs
  rw [run_mk]
  obtain ⟨I, hI⟩ : ∃ I : Nat → Env → Prop, ∀ j e, I j e ↔ ∃ s3, free s3 = true ∧ e = [.va (.f (.d (opsD os))), .va (.f (tbl p h f)), .va (.f (.d (.int (needsM h f (os.take j))))), s3] := ⟨_, fun _ _ => Iff.rfl⟩
  have hit : asL (opsD os) = .ok (os.map Op.D) := rfl
  simp (disch := first | rfl | assumption | omega | simp [*]) [hit]
  refine fin_wp (wp_for I ?_ ?_ ?_)
  · exact (hI _ _).mpr ⟨.no, rfl, rfl⟩
  · intro j x e hx h1
    obtain ⟨s3, h3, rfl⟩ := (hI _ _).mp h1
    rw [List.getElem?_map] at hx
    cases hj : os[j]? with
    | none => rw [hj] at hx; cases hx
    | some o =>
      rw [hj] at hx
      cases hx
      rw [gN_ap (t := s3) rfl h3, oW_some]
      have tk : needsM h f (os.take (j + 1)) = needsM h f (os.take j) + o.needs h f := by
        rw [take_succ' hj, needsM_append]
        show _ + (o.needs h f + 0) = _
        rw [Int.add_zero]
      rw [show (I (j + 1)) = I (j + 1) from rfl]
      have key : ∀ s : Slot, I (j + 1) [.va (.f (.d (opsD os))), .va (.f (tbl p h f)), .va (.f (.d (.int (needsM h f (os.take j) + o.needs h f)))), .va (.f (.d o.D))] := fun _ => (hI _ _).mpr ⟨.va (.f (.d o.D)), rfl, by rw [tk]⟩
      have key := key .no
      cases o <;> unfold Op.D Op.needs at key <;> unfold Op.D <;> simp (disch := first | rfl | assumption | omega | simp [*]) [ix2_0, ix2_1, ix3_0, vDG3_ap, dg3_s] <;> first | exact key | (rw [Int.add_zero] at key; exact key) | skip
  · intro e h1
    obtain ⟨s3, h3, rfl⟩ := (hI _ _).mp h1
    rw [List.length_map, List.take_length]
    simp
end VL

set_option Elab.async false
set_option linter.all false
set_option maxRecDepth 100000
set_option maxHeartbeats 4000000
namespace VL
open PySem PySem.Spec PyProof.Rows L2

theorem strOk_D : ∀ o : Op, fit 1 o.D = true := fun o => by cases o <;> (unfold Op.D fit; simp [fit])
theorem fit_ops (os : List Op) : fit 2 (opsD os) = true := by
  unfold opsD
  show (os.map Op.D).all (fit 1) = true
  rw [List.all_eq_true]
  intro x m
  obtain ⟨o, _, rfl⟩ := List.mem_map.mp m
  exact strOk_D o
@[simp] theorem cop_eq_ops (os : List Op) : Cop.h .eq (opsD os) (opsD os) = .ok (.d (.bool true)) := by
  rw [cop_eq 2 (fit_ops os) (fit_ops os)]
  simp
theorem okL_bad {p h : Int} {os : List Op} {i : Nat} {o : Op} (hi : os[i]? = some o) (hb : o.ok p h i = false) : okL p h os = false := by
  rw [Bool.eq_false_iff]
  intro z
  unfold okL at z
  rw [List.all_eq_true] at z
  have : (o.ok p h i) ∈ os.mapIdx fun i o => o.ok p h i := by
    obtain ⟨il, e⟩ := List.getElem?_eq_some_iff.mp hi
    exact List.mem_mapIdx.mpr ⟨i, il, by rw [e]⟩
  have := z _ this
  rw [hb] at this
  cases this
@[simp] theorem frF_opsT (os : List Op) : frF (opsT os) = .ok (.d (opsD os)) := frF_dl _
end VL

set_option Elab.async false
set_option linter.all false
set_option maxRecDepth 100000
set_option maxHeartbeats 4000000
namespace VL
open PySem PySem.Spec PyProof.Rows L2

theorem atI_get {α : Type} {xs : List α} {k : Int} {x : α} (h0 : 0 ≤ k) (h : atI xs k = some x) : xs[k.toNat]? = some x := by rwa [atI_pos h0] at h
theorem upd_dll {qs : List (List PyData)} {k : Int} {q q' : List PyData} (h0 : 0 ≤ k) (h : atI qs k = some q) : updS (SV.dll qs) [.ix k] (SV.dl q') = SV.dll (qs.set k.toNat q') := by
  have hk := atI_get h0 h
  have hl : k.toNat < qs.length := (List.getElem?_eq_some_iff.mp hk).1
  have hs : stepS (SV.dll qs) (.ix k) = some (SV.dl q) := by
    show atI (qs.map SV.dl) k = _
    rw [atI_map, h]; rfl
  show (match stepS (SV.dll qs) (.ix k) with | some u => setS1 (SV.dll qs) (.ix k) (updS u [] (SV.dl q')) | none => SV.dll qs) = _
  rw [hs]
  show SV.own (setIx (qs.map SV.dl) k (SV.dl q')) = _
  unfold setIx
  have hx : ixN (qs.map SV.dl).length k = some k.toNat := by
    unfold ixN
    rw [if_pos h0, if_pos (by rw [List.length_map]; omega)]
  rw [hx]
  unfold SV.dll
  rw [List.map_set]
theorem appE_dl {e : Env} {i : Nat} {u : SV} {ds : List PyData} {p : PyData} (h : e[i]? = some (.va (SV.dl ds))) (hl : ds.length < 16777216) : vAppE1 (i, [], u) (.f (.d p)) e = .ok (.f (.d .none)) ((e.map dv).set i (.va (SV.dl (ds ++ [p])))) := by
  unfold vAppE1 reP
  rw [rd_ap, h, rdS_va]
  show vApp1 e (i, [], SV.dl ds) (.f (.d p)) = _
  exact app_dl h hl
@[simp] theorem vAppE_ap (f : Env → Res Plc) (g : FE) (e : Env) : vAppE f g e = oR ((f e).bind lstP) fun x => if fldsOnly x.2.1 = true then (g e).bind (vAppE1 x) else .bad := rfl
@[simp] theorem vPop0_ap (f : Env → Res Plc) (e : Env) : vPop0 f e = oR ((f e).bind lstP) (pop1 e) := rfl
@[simp] theorem vIns_ap (f : Env → Res Plc) (g : FD) (h : FP) (e : Env) : vIns f g h e = oR ((f e).bind lstP) fun x => oR (g e) fun k => oR (h e) fun y => ins1 e x y k := rfl
@[simp] theorem fldsOnly_nil : fldsOnly [] = true := rfl
def isInn (hd : Int) : Op → Bool
  | .inn x => decide (x = hd)
  | _ => false
def usedM (os : List Op) (hd : Int) : Nat := os.countP (isInn hd)
theorem inn_D (o : Op) (hd : Int) : (o.D = .tuple [.str "in", .int hd]) ↔ isInn hd o = true := by
  cases o <;> simp [Op.D, isInn]
theorem run_lused (os : List Op) (hd : Int) (hl : os.length < 1000) : run S__law_used [.d (opsD os), .d (.int hd)] = .ok (.d (.int (usedM os hd))) := by
  unfold S__law_used B__law_used
  rw [run_mk]
  simp (disch := first | rfl | assumption | omega | simp [*])
  rw [comp_lstT os Op.D (isInn hd) (fun o => .f (.d o.D))]
  · rw [map_dl]
    simp [usedM, List.countP_eq_length_filter]
  · simp [opsD]
  · omega
  · intro o _
    refine ⟨_, gN_ap (t := .no) rfl rfl, ?_, fun _ => rfl⟩
    have hc : Cop.h .eq o.D (.tuple [.str "in", .int hd]) = .ok (.d (.bool (isInn hd o))) := by
      rw [cop_eq (d := o.D) (e := .tuple [.str "in", .int hd]) 1 (strOk_D o) (strOk_D (.inn hd))]
      congr 3
      rw [Bool.eq_iff_iff, @decide_eq_true_iff _ (Classical.propDecidable _)]
      exact inn_D o hd
    simp (disch := first | rfl | assumption | omega | simp [*]) [hc]
theorem run_used (os : List Op) (hd : Int) (hl : os.length < 1000) : run S_used [.d (opsD os), .d (.int hd)] = .ok (.d (.int (usedM os hd))) := by
  unfold S_used B_used
  rw [run_mk]
  simp (disch := first | rfl | assumption | omega | simp [*])
  rw [comp_lstT os Op.D (isInn hd) (fun o => .f (.d o.D))]
  · rw [map_dl]
    simp [usedM, List.countP_eq_length_filter]
  · simp [opsD]
  · omega
  · intro o _
    refine ⟨_, gN_ap (t := .no) rfl rfl, ?_, fun _ => rfl⟩
    cases o <;> unfold Op.D isInn <;> simp (disch := first | rfl | assumption | omega | simp [*]) [ix2_0, ix2_1, ix3_0, ix3_1]
def goodRow (p : Int) (os : List Op) (k : Nat) (r : List Int) : Bool := (r.all fun c => decide (0 ≤ c) && decide (c < p)) && decide (usedM os ((k : Int) + 1) ≤ r.length)
def inOk (p h : Int) (os : List Op) (ins : List (List Int)) : Bool := decide ((ins.length : Int) = h) && (ins.mapIdx fun k r => goodRow p os k r).all id
theorem all_num (p h f : Int) (r : List Int) (hl : r.length ≤ 16777216) (e : Env) (i j : Nat) (h0 : e[0]? = some (.va (.f (tbl p h f)))) (hi : e[i]? = some (.va (.f (.d (.list (r.map .int)))))) (hj : j < e.length) (hij : j ≠ 0) :
    toT (v1 allP (frD (vComp (vItL (vVarD i)) (gN j) vYes (vCall S_is_number (aC (vVar 0) (aC (vVar j) aN))) [j]))) e = .ok (r.all fun c => decide (0 ≤ c) && decide (c < p)) := by
  rw [toT_ap, v1_ap, frD_ap, comp_lstT r .int (fun _ => true) (fun c => .f (.d (.bool (decide (0 ≤ c) && decide (c < p)))))]
  · rw [List.filter_eq_self.mpr (fun _ _ => rfl), map_dl]
    rw [show (r.map fun c => PyData.bool (decide (0 ≤ c) && decide (c < p))) = (r.map fun c => decide (0 ≤ c) && decide (c < p)).map .bool by rw [List.map_map]; rfl]
    simp [-List.map_map, List.all_map]
  · simp [hi]
  · exact hl
  · intro c _
    refine ⟨_, gN_ap (t := .no) (by simp [hj]) rfl, rfl, fun _ => elt_leaf rfl ?_⟩
    have := run_is_number p h f c
    have z : ((e.set j .no).set j (.va (.f (.d (.int c)))))[0]? = some (.va (.f (tbl p h f))) := by
      rw [List.getElem?_set_ne hij, List.getElem?_set_ne hij, h0]
    have z2 : ((e.set j .no).set j (.va (.f (.d (.int c)))))[j]? = some (.va (.f (.d (.int c)))) := List.getElem?_set_self (by rw [List.length_set]; exact hj)
    simp only [wipeE_cons, wipeE_nil]
    rw [vCall_fr, aC_ap, aC_ap, vVar_ap, vVar_ap, z, z2]
    simp [this]
theorem run_check_inputs (p h f : Int) (os : List Op) (ins : List (List Int)) (ho : os.length < 1000) (hl : ins.length < 1000) (hr : ∀ r ∈ ins, r.length < 1000) :
    run S_check_inputs [tbl p h f, .d (opsD os), .d (rowsP ins)] = if inOk p h os ins = true then .ok (.d .none) else .err "BadInputs" := by
  unfold S_check_inputs B_check_inputs
  rw [run_mk]
  have hlen : lenP (rowsP ins) = .ok (.d (.int ins.length)) := by unfold rowsP; rw [lenP_l, List.length_map]
  by_cases hn : (ins.length : Int) = h
  · have hz : vIfS (toT (vCmp .ne (toD (v1 lenP (vVarD 2))) (toD (vFld "Table" "hands" (vVar 0))))) (vRaise "BadInputs") vSkip ([tbl p h f, FV.d (opsD os), .d (rowsP ins)].map vaF ++ List.replicate 3 .no) = .nx [.va (.f (tbl p h f)), .va (.f (.d (opsD os))), .va (.f (.d (rowsP ins))), .no, .no, .no] := by
      simp (disch := first | rfl | assumption | omega | simp [*]) [hlen, hn]
    rw [vSeq_ap, hz, andThen_nx, vFor_ap]
    rw [show vItEnum (toD (vVar 2)) [.va (.f (tbl p h f)), .va (.f (.d (opsD os))), .va (.f (.d (rowsP ins))), .no, .no, .no] = .ok (enumP 0 (ins.map fun r => .list (r.map .int))) from by simp [rowsP]]
    rw [ofR_ok]
    obtain ⟨I, hI⟩ : ∃ I : Nat → Env → Prop, ∀ j e, I j e ↔ ∃ s3 s4, (free s3 = true ∧ free s4 = true) ∧ (∀ k r, k < j → ins[k]? = some r → goodRow p os k r = true) ∧ e = [.va (.f (tbl p h f)), .va (.f (.d (opsD os))), .va (.f (.d (rowsP ins))), s3, s4, .no] := ⟨_, fun _ _ => Iff.rfl⟩
    have key := wx_for (c := "BadInputs") (E := inOk p h os ins = false) (P := I ins.length) I (g := gT 2 (gsC (gN 3) (gsC (gN 4) gsN))) (b := vIfS (vOrT (vNotT (toT (v1 allP (frD (vComp (vItL (vVarD 4)) (gN 5) vYes (vCall S_is_number (aC (vVar 0) (aC (vVar 5) aN))) [5]))))) (toT (vCmp .lt (toD (v1 lenP (vVarD 4))) (frD (vCall S_used (aC (vVar 1) (aC (frO (v2 addV (vVarD 3) (toD (vC (.int 1))))) aN))))))) (vRaise "BadInputs") vSkip)
      (items := enumP 0 (ins.map fun r => .list (r.map .int))) (e := [.va (.f (tbl p h f)), .va (.f (.d (opsD os))), .va (.f (.d (rowsP ins))), .no, .no, .no]) ?_ ?_ ?_
    · generalize forL _ _ _ _ = fl at key ⊢
      cases fl with
      | nx e =>
        have k2 : I ins.length e := key
        obtain ⟨s3, s4, _, hall, rfl⟩ := (hI _ _).mp k2
        have : inOk p h os ins = true := by
          unfold inOk
          rw [decide_eq_true hn, Bool.true_and, List.all_eq_true]
          intro b m
          obtain ⟨i, hi, rfl⟩ := List.mem_mapIdx.mp m
          exact hall i _ hi (List.getElem?_eq_getElem hi)
        rw [if_pos this]
        rfl
      | err d e =>
        have k2 : d = "BadInputs" ∧ inOk p h os ins = false := key
        rw [k2.1, k2.2]
        simp
      | rt _ _ => exact key.elim
      | bad => exact key.elim
    · exact (hI _ _).mpr ⟨.no, .no, ⟨rfl, rfl⟩, fun k r hk => absurd hk (by omega), rfl⟩
    · intro j x e hx h1
      obtain ⟨s3, s4, ⟨h3, h4⟩, hall, rfl⟩ := (hI _ _).mp h1
      obtain ⟨d, hd, rfl⟩ := enum_get hx
      rw [List.getElem?_map] at hd
      cases hj : ins[j]? with
      | none => rw [hj] at hd; cases hd
      | some r =>
        rw [hj] at hd
        cases hd
        have rl := hr r (List.mem_of_getElem? hj)
        have hu := run_used os ((j : Int) + 1) ho
        have ha := all_num p h f r (by omega) [.va (.f (tbl p h f)), .va (.f (.d (opsD os))), .va (.f (.d (rowsP ins))), .va (.f (.d (.int j))), .va (.f (.d (.list (r.map .int)))), .no] 4 5 rfl rfl (by simp) (by omega)
        rw [show (gT 2 (gsC (gN 3) (gsC (gN 4) gsN))) (.tuple [.int (j : Int), .list (r.map .int)]) [.va (.f (tbl p h f)), .va (.f (.d (opsD os))), .va (.f (.d (rowsP ins))), s3, s4, .no] = some [.va (.f (tbl p h f)), .va (.f (.d (opsD os))), .va (.f (.d (rowsP ins))), .va (.f (.d (.int j))), .va (.f (.d (.list (r.map .int)))), .no] from by simp [h3, h4]]
        rw [oW_some, vIfS_ap, vOrT_ap, vNotT_ap, ha]
        by_cases g1 : (r.all fun c => decide (0 ≤ c) && decide (c < p)) = true
        · by_cases g2 : usedM os ((j : Int) + 1) ≤ r.length
          · have g2' : ¬ (r.length : Int) < (usedM os ((j : Int) + 1) : Int) := by omega
            have gr : goodRow p os j r = true := by unfold goodRow; rw [g1, decide_eq_true g2]; rfl
            rw [g1]
            simp (disch := first | rfl | assumption | omega | simp [*]) [hu, g2']
            refine (hI _ _).mpr ⟨_, _, ⟨rfl, rfl⟩, fun k r' hk hr' => ?_, rfl⟩
            by_cases e : k = j
            · subst e; rw [hj] at hr'; cases hr'; exact gr
            · exact hall k r' (by omega) hr'
          · have g2' : (r.length : Int) < (usedM os ((j : Int) + 1) : Int) := by omega
            have gr : goodRow p os j r = false := by unfold goodRow; rw [decide_eq_false g2, Bool.and_false]
            have hb : inOk p h os ins = false := by
              rw [Bool.eq_false_iff]; intro z
              unfold inOk at z
              rw [Bool.and_eq_true, List.all_eq_true] at z
              obtain ⟨jl, ej⟩ := List.getElem?_eq_some_iff.mp hj
              have := z.2 (goodRow p os j r) (List.mem_mapIdx.mpr ⟨j, jl, by rw [ej]⟩)
              rw [gr] at this; cases this
            rw [g1]
            simp (disch := first | rfl | assumption | omega | simp [*]) [hu, g2', hb]
        · have gr : goodRow p os j r = false := by unfold goodRow; rw [Bool.eq_false_iff.mpr g1]; rfl
          have hb : inOk p h os ins = false := by
            rw [Bool.eq_false_iff]; intro z
            unfold inOk at z
            rw [Bool.and_eq_true, List.all_eq_true] at z
            obtain ⟨jl, ej⟩ := List.getElem?_eq_some_iff.mp hj
            have := z.2 (goodRow p os j r) (List.mem_mapIdx.mpr ⟨j, jl, by rw [ej]⟩)
            rw [gr] at this; cases this
          rw [Bool.eq_false_iff.mpr g1]
          simp (disch := first | rfl | assumption | omega | simp [*]) [hb]
    · intro e h1
      rwa [enumP_length, List.length_map] at h1
  · have hb : inOk p h os ins = false := by unfold inOk; rw [decide_eq_false hn]; rfl
    simp (disch := first | rfl | assumption | omega | simp [*]) [hlen, hn, hb]
end VL

set_option Elab.async false
set_option linter.all false
set_option maxRecDepth 100000
set_option maxHeartbeats 4000000
namespace VL
open PySem PySem.Spec PyProof.Rows L2

theorem okL_at {p h : Int} {os : List Op} (hk : okL p h os = true) {i : Nat} {o : Op} (hi : os[i]? = some o) : o.ok p h i = true := by
  cases z : o.ok p h i with
  | true => rfl
  | false => rw [okL_bad hi z] at hk; cases hk
theorem used_lt {os : List Op} {i : Nat} {hd : Int} (hi : os[i]? = some (.inn hd)) : usedM (os.take i) hd < usedM os hd := by
  obtain ⟨il, e⟩ := List.getElem?_eq_some_iff.mp hi
  unfold usedM
  have h1 : os.countP (isInn hd) = (os.take (i + 1)).countP (isInn hd) + (os.drop (i + 1)).countP (isInn hd) := by
    rw [← List.countP_append, List.take_append_drop]
  rw [take_succ' hi, List.countP_append] at h1
  have h2 : ([Op.inn hd] : List Op).countP (isInn hd) = 1 := by simp [isInn]
  omega
structure InOk (p h : Int) (os : List Op) (ins : List (List Int)) : Prop where
  len : (ins.length : Int) = h
  row : ∀ (k : Nat) (r : List Int), ins[k]? = some r → Rng p r ∧ usedM os ((k : Int) + 1) ≤ r.length
theorem inOk_iff {p h : Int} {os : List Op} {ins : List (List Int)} (z : inOk p h os ins = true) : InOk p h os ins := by
  unfold inOk at z
  rw [Bool.and_eq_true, List.all_eq_true, decide_eq_true_iff] at z
  refine ⟨z.1, fun k r hr => ?_⟩
  obtain ⟨kl, e⟩ := List.getElem?_eq_some_iff.mp hr
  have := z.2 (goodRow p os k r) (List.mem_mapIdx.mpr ⟨k, kl, by rw [e]⟩)
  unfold goodRow at this
  simp only [id_eq, Bool.and_eq_true, List.all_eq_true, decide_eq_true_iff] at this
  exact ⟨fun c m => this.1 c m, this.2⟩
theorem in_at {p h : Int} {os : List Op} {ins : List (List Int)} (io : InOk p h os ins) (hk : okL p h os = true) {i : Nat} {hd : Int} (hi : os[i]? = some (.inn hd)) :
    1 ≤ hd ∧ hd ≤ h ∧ ∃ r c, ins[(hd - 1).toNat]? = some r ∧ r[usedM (os.take i) hd]? = some c ∧ (0 ≤ c ∧ c < p) ∧ (ins.getD (hd - 1).toNat []).getD (usedM (os.take i) hd) 0 = c := by
  have o := okL_at hk hi
  simp only [Op.ok, Bool.and_eq_true, decide_eq_true_iff] at o
  have kl : (hd - 1).toNat < ins.length := by have := io.len; omega
  have hr := List.getElem?_eq_getElem kl
  have rr := io.row _ _ hr
  rw [show (((hd - 1).toNat : Nat) : Int) + 1 = hd by omega] at rr
  have ul := used_lt hi
  have cl : usedM (os.take i) hd < ins[(hd - 1).toNat].length := by omega
  refine ⟨o.1, o.2, _, _, hr, List.getElem?_eq_getElem cl, rr.1 _ (List.getElem_mem cl), ?_⟩
  simp only [List.getD, hr, Option.getD_some, List.getElem?_eq_getElem cl]
theorem used_step {os : List Op} {i : Nat} {o : Op} (hi : os[i]? = some o) (hd : Int) : usedM (os.take (i + 1)) hd = usedM (os.take i) hd + if isInn hd o = true then 1 else 0 := by
  unfold usedM
  rw [take_succ' hi, List.countP_append, List.countP_singleton]
theorem getD_at {xs : List Int} {a : Int} (h0 : 0 ≤ a) (h1 : a < xs.length) : atI (xs.map PyData.int) a = some (.int (xs.getD a.toNat 0)) := by
  rw [atI_pos h0, List.getElem?_map]
  have : a.toNat < xs.length := by omega
  simp only [List.getD, List.getElem?_eq_getElem this, Option.getD_some]
  rfl
theorem run_joined (p h f x y : Int) (o : Op) (hp : 0 < p) (hx : 0 ≤ x ∧ x < 1000) (ho : (∃ a b, o = .sum a b) ∨ (∃ a b, o = .less a b) ∨ (∃ a b, o = .mul a b)) :
    run S_joined [tbl p h f, .d o.D, .d (.int x), .d (.int y)] = .ok (.d (.int (match o with | .sum _ _ => (x + y) % p | .less _ _ => (x - y) % p | _ => x * y % p))) := by
  unfold S_joined B_joined
  rw [run_mk]
  rcases ho with ⟨a, b, rfl⟩ | ⟨a, b, rfl⟩ | ⟨a, b, rfl⟩ <;> unfold Op.D <;> simp (disch := first | rfl | assumption | omega | simp [*]) [ix3_0, ix3_1, ix3_2]
end VL

set_option Elab.async false
set_option linter.all false
set_option maxRecDepth 100000
set_option maxHeartbeats 4000000
namespace VL
open PySem PySem.Spec PyProof.Rows L2

def restM (os : List Op) (ins : List (List Int)) (i : Nat) : List (List Int) := ins.mapIdx fun k r => r.drop (usedM (os.take i) ((k : Int) + 1))
theorem rest_other {os : List Op} {i : Nat} {o : Op} (hi : os[i]? = some o) (ins : List (List Int)) (ho : ∀ hd, isInn hd o = false) : restM os ins (i + 1) = restM os ins i := by
  unfold restM
  congr 1
  funext k r
  rw [used_step hi, ho, if_neg (by simp), Nat.add_zero]
theorem rest_inn {os : List Op} {i : Nat} {hd : Int} (hi : os[i]? = some (.inn hd)) (ins : List (List Int)) (h0 : 1 ≤ hd) {r : List Int} (hr : ins[(hd - 1).toNat]? = some r) : restM os ins (i + 1) = (restM os ins i).set (hd - 1).toNat (r.drop (usedM (os.take i) hd + 1)) := by
  obtain ⟨kl, er⟩ := List.getElem?_eq_some_iff.mp hr
  unfold restM
  refine List.ext_getElem (by simp) fun j h1 h2 => ?_
  rw [List.getElem_set]
  simp only [List.getElem_mapIdx]
  rw [used_step hi]
  by_cases e : (hd - 1).toNat = j
  · rw [if_pos e]
    subst e
    rw [show (((hd - 1).toNat : Nat) : Int) + 1 = hd by omega, if_pos (by simp [isInn]), er]
  · rw [if_neg e, if_neg (by simp only [isInn, decide_eq_true_iff]; omega), Nat.add_zero]
theorem rest_at {os : List Op} {i : Nat} {hd : Int} (ins : List (List Int)) (h0 : 1 ≤ hd) {r : List Int} {c : Int} (hr : ins[(hd - 1).toNat]? = some r) (hc : r[usedM (os.take i) hd]? = some c) : (restM os ins i)[(hd - 1).toNat]? = some (c :: r.drop (usedM (os.take i) hd + 1)) := by
  obtain ⟨kl, er⟩ := List.getElem?_eq_some_iff.mp hr
  obtain ⟨cl, ec⟩ := List.getElem?_eq_some_iff.mp hc
  unfold restM
  rw [List.getElem?_mapIdx, hr]
  show some (r.drop (usedM (os.take i) ((((hd - 1).toNat : Nat) : Int) + 1))) = _
  rw [show (((hd - 1).toNat : Nat) : Int) + 1 = hd by omega, List.drop_eq_getElem_cons cl, ec]
theorem rows_tree (ins : List (List Int)) : SV.own (ins.map fun r => SV.dl (r.map .int)) = SV.dll (rowsD ins) := by
  unfold SV.dll rowsD
  rw [List.map_map]
  rfl
theorem lists_comp {it : IT} {e : Env} {j : Nat} (ins : List (List Int)) (hi : it e = .ok (ins.map fun r => .list (r.map .int))) (hl : ins.length < 1000) (hj : j < e.length) :
    vComp it (gN j) vYes (v1 listP (vVarD j)) [j] e = .ok (SV.dll (rowsD ins)) := by
  rw [comp_lstT ins (fun r => .list (r.map .int)) (fun _ => true) (fun r => SV.dl (r.map .int)) hi (by omega) (fun r _ => ⟨_, gN_ap (t := .no) (by simp [hj]) rfl, rfl, fun _ => by
    have z2 : ((e.set j .no).set j (.va (.f (.d (.list (r.map PyData.int))))))[j]? = some (.va (.f (.d (.list (r.map .int))))) := List.getElem?_set_self (by rw [List.length_set]; exact hj)
    simp only [wipeE_cons, wipeE_nil]
    rw [v1_ap, vVarD_ap, z2]
    simp⟩)]
  rw [List.filter_eq_self.mpr (fun _ _ => rfl), rows_tree]
def insRow (c : Int) (os : List Op) (p hd : Int) : List Int := (List.range (usedM os hd + mixM c (60 + hd) 2).toNat).map fun (j : Nat) => mixM c (70 + 9 * hd + (j : Int)) p
def insBy (c : Int) (os : List Op) (p h : Int) : List (List Int) := (List.range h.toNat).map fun (k : Nat) => insRow c os p (1 + (k : Int))
theorem insBy_ok (c : Int) (os : List Op) (p h : Int) (hp : 0 < p) (hh : 0 ≤ h) : InOk p h os (insBy c os p h) := by
  refine ⟨by unfold insBy; simp; omega, fun k r hr => ?_⟩
  unfold insBy at hr
  rw [List.getElem?_map] at hr
  cases z : (List.range h.toNat)[k]? with
  | none => rw [z] at hr; cases hr
  | some k' =>
    rw [z] at hr
    cases hr
    have e : k' = k := by
      obtain ⟨kl, e⟩ := List.getElem?_eq_some_iff.mp z
      simpa using e.symm
    subst e
    have m := mixM_lt c (60 + (1 + (k' : Int))) (show (0 : Int) < 2 by omega)
    refine ⟨fun x mx => ?_, ?_⟩
    · unfold insRow at mx
      obtain ⟨j, _, rfl⟩ := List.mem_map.mp mx
      exact mixM_lt _ _ hp
    · unfold insRow
      rw [List.length_map, List.length_range, show (k' : Int) + 1 = 1 + (k' : Int) by omega]
      omega
theorem insRow_len (c : Int) (os : List Op) (p hd : Int) : (insRow c os p hd).length ≤ os.length + 1 := by
  unfold insRow
  rw [List.length_map, List.length_range]
  have m := mixM_lt c (60 + hd) (show (0 : Int) < 2 by omega)
  have : usedM os hd ≤ os.length := List.countP_le_length
  omega
theorem runO_inputs_by (c p h f : Int) (os : List Op) (hl : os.length < 900) (hp : 0 < p) (hh : 0 ≤ h ∧ h < 100) :
    runO S__law_inputs_by [.d (.int c), .d (opsD os), tbl p h f] = .ok (SV.dll (rowsD (insBy c os p h))) := by
  unfold S__law_inputs_by B__law_inputs_by
  rw [runO_mk]
  obtain ⟨I, hI⟩ : ∃ I : Nat → Env → Prop, ∀ j e, I j e ↔ ∃ s4 s5, (free s4 = true ∧ free s5 = true) ∧ e = [.va (.f (.d (.int c))), .va (.f (.d (opsD os))), .va (.f (tbl p h f)), .va (SV.dll (rowsD ((List.range j).map fun (k : Nat) => insRow c os p (1 + (k : Int))))), s4, s5, .no] := ⟨_, fun _ _ => Iff.rfl⟩
  simp (disch := first | rfl | assumption | omega | simp [*])
  refine finO_wp (wp_for I ?_ ?_ ?_)
  · exact (hI _ _).mpr ⟨.no, .no, ⟨rfl, rfl⟩, rfl⟩
  · intro j x e hx h1
    obtain ⟨s4, s5, ⟨h4, h5⟩, rfl⟩ := (hI _ _).mp h1
    obtain ⟨hj, rfl⟩ := rng_get hx
    have hu := run_lused os (1 + (j : Int)) (by omega)
    have hm := run_mix c (60 + (1 + (j : Int))) 2 (by omega)
    have m := mixM_lt c (60 + (1 + (j : Int))) (show (0 : Int) < 2 by omega)
    have ul : usedM os (1 + (j : Int)) ≤ os.length := List.countP_le_length
    rw [gN_ap (t := s4) rfl h4, oW_some]
    rw [show (List.set [.va (.f (.d (.int c))), .va (.f (.d (opsD os))), .va (.f (tbl p h f)), .va (SV.dll (rowsD ((List.range j).map fun (k : Nat) => insRow c os p (1 + (k : Int))))), s4, s5, .no] 4 (.va (.f (.d (.int (1 + (j : Int))))))) = [.va (.f (.d (.int c))), .va (.f (.d (opsD os))), .va (.f (tbl p h f)), .va (SV.dll (rowsD ((List.range j).map fun (k : Nat) => insRow c os p (1 + (k : Int))))), .va (.f (.d (.int (1 + (j : Int))))), s5, .no] from rfl]
    rw [vSeq_ap]
    have e1 : vSet 5 (frO (v2 addV (frD (vCall S__law_used (aC (vVar 1) (aC (vVar 4) aN)))) (frD (vCall S__law_mix (aC (vVar 0) (aC (frO (v2 addV (toD (vC (.int 60))) (vVarD 4))) (aC (vC (.int 2)) aN)))))))
        [.va (.f (.d (.int c))), .va (.f (.d (opsD os))), .va (.f (tbl p h f)), .va (SV.dll (rowsD ((List.range j).map fun (k : Nat) => insRow c os p (1 + (k : Int))))), .va (.f (.d (.int (1 + (j : Int))))), s5, .no]
        = .nx [.va (.f (.d (.int c))), .va (.f (.d (opsD os))), .va (.f (tbl p h f)), .va (SV.dll (rowsD ((List.range j).map fun (k : Nat) => insRow c os p (1 + (k : Int))))), .va (.f (.d (.int (1 + (j : Int))))), .va (.f (.d (.int ((usedM os (1 + (j : Int)) : Int) + mixM c (60 + (1 + (j : Int))) 2)))), .no] := by
      simp (disch := first | rfl | assumption | omega | simp [*]) [hu, hm]
    rw [e1, andThen_nx, vEx_ap, vApp_ap]
    have e2 : (plN 3 [.va (.f (.d (.int c))), .va (.f (.d (opsD os))), .va (.f (tbl p h f)), .va (SV.dll (rowsD ((List.range j).map fun (k : Nat) => insRow c os p (1 + (k : Int))))), .va (.f (.d (.int (1 + (j : Int))))), .va (.f (.d (.int ((usedM os (1 + (j : Int)) : Int) + mixM c (60 + (1 + (j : Int))) 2)))), .no]).bind lstP = .ok (3, [], SV.dll (rowsD ((List.range j).map fun (k : Nat) => insRow c os p (1 + (k : Int))))) := by simp
    rw [e2, oR_ok]
    have e3 : vComp (v1 rng1 (vVarD 5)) (gN 6) vYes (vCall S__law_mix (aC (vVar 0) (aC (frO (v2 addV (frD (v2 addV (toD (vC (.int 70))) (frD (v2 mulV (toD (vC (.int 9))) (vVarD 4))))) (vVarD 6))) (aC (vFld "Table" "prime" (vVar 2)) aN)))) [6]
        [.va (.f (.d (.int c))), .va (.f (.d (opsD os))), .va (.f (tbl p h f)), .va (SV.dll (rowsD ((List.range j).map fun (k : Nat) => insRow c os p (1 + (k : Int))))), .va (.f (.d (.int (1 + (j : Int))))), .va (.f (.d (.int ((usedM os (1 + (j : Int)) : Int) + mixM c (60 + (1 + (j : Int))) 2)))), .no]
        = .ok (SV.dl ((insRow c os p (1 + (j : Int))).map .int)) := by
      rw [comp_lstT (List.range (usedM os (1 + (j : Int)) + mixM c (60 + (1 + (j : Int))) 2).toNat) (fun (k : Nat) => .int (k : Int)) (fun _ => true) (fun (k : Nat) => .f (.d (.int (mixM c (70 + 9 * (1 + (j : Int)) + (k : Int)) p))))]
      · rw [List.filter_eq_self.mpr (fun _ _ => rfl), map_dl]
        unfold insRow
        rw [List.map_map]
        rfl
      · simp (disch := first | rfl | assumption | omega | simp [*])
        unfold rngP
        simp
      · rw [List.length_range]; omega
      · intro k _
        refine ⟨_, gN_ap (t := .no) rfl rfl, rfl, fun _ => elt_leaf rfl ?_⟩
        have := run_mix c (70 + 9 * (1 + (j : Int)) + (k : Int)) p hp
        simp (disch := first | rfl | assumption | omega | simp [*]) [this]
    rw [e3, oR_ok]
    have ll : (rowsD ((List.range j).map fun (k : Nat) => insRow c os p (1 + (k : Int)))).length < 16777216 := by rw [rowsD_length]; simp; omega
    have e4 := app_dll (e := [.va (.f (.d (.int c))), .va (.f (.d (opsD os))), .va (.f (tbl p h f)), .va (SV.dll (rowsD ((List.range j).map fun (k : Nat) => insRow c os p (1 + (k : Int))))), .va (.f (.d (.int (1 + (j : Int))))), .va (.f (.d (.int ((usedM os (1 + (j : Int)) : Int) + mixM c (60 + (1 + (j : Int))) 2)))), .no]) (i := 3) (p := (insRow c os p (1 + (j : Int))).map .int) rfl ll
    rw [e4, ofO_ok]
    refine (hI _ _).mpr ⟨.va (.f (.d (.int (1 + (j : Int))))), .va (.f (.d (.int ((usedM os (1 + (j : Int)) : Int) + mixM c (60 + (1 + (j : Int))) 2)))), ⟨rfl, rfl⟩, ?_⟩
    rw [List.range_succ, List.map_append, rowsD_append]
    rfl
  · intro e h1
    obtain ⟨s4, s5, _, rfl⟩ := (hI _ _).mp h1
    rw [rngP_length, vRetV_va (s := SV.dll (rowsD (insBy c os p h))) 3 _ (by unfold insBy; simp)]
    rfl
theorem run_inputs_by (c p h f : Int) (os : List Op) (hl : os.length < 900) (hp : 0 < p) (hh : 0 ≤ h ∧ h < 100) :
    run S__law_inputs_by [.d (.int c), .d (opsD os), tbl p h f] = .ok (.d (rowsP (insBy c os p h))) := by
  have h2 := run_ofO (runO_inputs_by c p h f os hl hp hh) (frF_dll _)
  rw [h2, rowsD_list]
end VL

set_option Elab.async false
set_option linter.all false
set_option maxRecDepth 100000
set_option maxHeartbeats 4000000
namespace VL
open PySem PySem.Spec PyProof.Rows L2

end VL

set_option Elab.async false
set_option linter.all false
set_option maxRecDepth 100000
set_option maxHeartbeats 4000000
namespace VL
open PySem PySem.Spec PyProof.Rows L2

theorem run_steps_by (ns : List Int) (start many p h f : Int) (hs : 0 ≤ start) (hm : 0 ≤ many) (hm2 : many < 1000) (hp : 0 < p) (hh : 0 < h) :
    run S__law_steps_by [.sc ns, .d (.int start), .d (.int many), tbl p h f] = .ok (.d (opsD (opsBy ns start many p h))) := run_ofO (runO_steps_by ns start many p h f hs hm hm2 hp hh) (frF_opsT _)
theorem fit_rows (ins : List (List Int)) : fit 3 (rowsP ins) = true := by
  show (ins.map fun r => PyData.list (r.map .int)).all (fit 2) = true
  rw [List.all_eq_true]
  intro x m
  obtain ⟨r, _, rfl⟩ := List.mem_map.mp m
  exact fit_ints 1 r
@[simp] theorem cop_eq_rows (ins : List (List Int)) : Cop.h .eq (rowsP ins) (rowsP ins) = .ok (.d (.bool true)) := by
  rw [cop_eq 3 (fit_rows ins) (fit_rows ins)]
  simp
theorem insBy_len (c : Int) (os : List Op) (p h : Int) (hh : 0 ≤ h) : ((insBy c os p h).length : Int) = h := by unfold insBy; simp; omega
theorem insBy_rows (c : Int) (os : List Op) (p h : Int) (ho : os.length < 900) : ∀ r ∈ insBy c os p h, r.length < 902 := fun r m => by
  unfold insBy at m
  obtain ⟨k, _, rfl⟩ := List.mem_map.mp m
  have := insRow_len c os p (1 + (k : Int))
  omega
end VL

set_option Elab.async false
set_option linter.all false
set_option maxRecDepth 100000
set_option maxHeartbeats 4000000
namespace VL
open PySem PySem.Spec PyProof.Rows L2

def unitP (h hand : Int) : List (Int × Int) := (List.range h.toNat).map fun (k : Nat) => (1 + (k : Int), if 1 + (k : Int) = hand then 1 else 0)
theorem unitP_length (h hand : Int) : (unitP h hand).length = h.toNat := by unfold unitP; simp
theorem unitP_ok {p h f : Int} (t : Tb p h f) (hand : Int) : PtOk p (unitP h hand) := by
  have tp := t.pos
  have thp := t.hp
  refine ⟨fun q m => ?_, ?_⟩
  · obtain ⟨k, hk, rfl⟩ := List.mem_map.mp m
    have := List.mem_range.mp hk
    refine ⟨⟨by show 0 ≤ 1 + (k : Int); omega, by show 1 + (k : Int) < p; omega⟩, ?_⟩
    show 0 ≤ (if 1 + (k : Int) = hand then (1 : Int) else 0) ∧ (if 1 + (k : Int) = hand then (1 : Int) else 0) < p
    split <;> omega
  · unfold unitP
    rw [List.pairwise_map]
    exact List.pairwise_lt_range.imp fun h => by show 1 + _ < 1 + _; omega
structure WtR (p h : Int) (Fs : List (List Int)) (j : Nat) : Prop where
  len : Fs.length = j
  row : ∀ (k : Nat) (F : List Int), Fs[k]? = some F → Thr p (unitP h (1 + (k : Int))) F
def heads (Fs : List (List Int)) : List Int := Fs.map fun F => F.getD 0 0
theorem getD0_at {F : List Int} (h : 0 < F.length) : atI (F.map PyData.int) 0 = some (.int (F.getD 0 0)) := getD_at (a := 0) (by omega) (by omega)
theorem run_weights (p h f : Int) (t : Tb p h f) : ∃ Fs, run S_weights [tbl p h f] = .ok (.d (.list ((heads Fs).map .int))) ∧ WtR p h Fs h.toNat := by
  have tp := t.pos
  have thp := t.hp
  have t3 := t.h3
  have t7 := t.h7
  have key : ∃ Fs, runO S_weights [tbl p h f] = .ok (SV.dl ((heads Fs).map .int)) ∧ WtR p h Fs h.toNat := by
    unfold S_weights B_weights
    rw [runO_mk]
    obtain ⟨I, hI⟩ : ∃ I : Nat → Env → Prop, ∀ j e, I j e ↔ ∃ Fs s2 s3, (free s2 = true ∧ free s3 = true) ∧ WtR p h Fs j ∧ e = [.va (.f (tbl p h f)), .va (SV.dl ((heads Fs).map .int)), s2, s3, .no] := ⟨_, fun _ _ => Iff.rfl⟩
    simp (disch := first | rfl | assumption | omega | simp [*])
    refine exO_wp (Q := fun Fs r => r = .ok (SV.dl ((heads Fs).map .int)) ∧ WtR p h Fs h.toNat) (wp_for I ?_ ?_ ?_)
    · exact (hI _ _).mpr ⟨[], .no, .no, ⟨rfl, rfl⟩, ⟨rfl, fun k F hF => by simp at hF⟩, rfl⟩
    · intro j x e hx h1
      obtain ⟨Fs, s2, s3, ⟨h2, h3⟩, wr, rfl⟩ := (hI _ _).mp h1
      obtain ⟨hj, rfl⟩ := rng_get hx
      have ok := unitP_ok t (1 + (j : Int))
      have ul := unitP_length h (1 + (j : Int))
      rcases run_through p h f t (unitP h (1 + (j : Int))) (by omega) (fun q m => (ok.rng q m).1) (fun q m => by have := (ok.rng q m).2; omega) with ⟨nd, _⟩ | ⟨_, F, hF, th⟩
      · exact absurd (up_dist ok.up) nd
      · have fl : 0 < F.length := by rw [th.len, ul]; omega
        have f0 := getD0_at fl
        have hdl : ((heads Fs).map PyData.int).length < 16777216 := by unfold heads; rw [List.length_map, List.length_map, wr.len]; omega
        rw [gN_ap (t := s2) rfl h2, oW_some]
        rw [show (List.set [.va (.f (tbl p h f)), .va (SV.dl ((heads Fs).map .int)), s2, s3, .no] 2 (.va (.f (.d (.int (1 + (j : Int))))))) = [.va (.f (tbl p h f)), .va (SV.dl ((heads Fs).map .int)), .va (.f (.d (.int (1 + (j : Int))))), s3, .no] from rfl]
        have hc : ((vComp (v2 rng2 (toD (vC (.int 1))) (frD (v2 addV (toD (vFld "Table" "hands" (vVar 0))) (toD (vC (.int 1)))))) (gN 4) vYes (unO (vTup (vCons (toD (vVar 4)) (vCons (toD (frO (v1 intP (toD (vCmp .eq (vVarD 4) (vVarD 2)))))) vNil)))) [4]) [.va (.f (tbl p h f)), .va (SV.dl ((heads Fs).map .int)), .va (.f (.d (.int (1 + (j : Int))))), s3, .no]).bind frF = .ok (.d (.list (ptsP (unitP h (1 + (j : Int)))))) := by
          rw [comp_map (items := rngP 1 h.toNat) (fun x => .tuple [.int (unI x), .int (if unI x = 1 + (j : Int) then 1 else 0)])]
          · unfold ptsP unitP rngP
            rw [List.map_map, List.map_map]
            rfl
          · simp (disch := first | rfl | assumption | omega | simp [*])
          · rw [rngP_length]; omega
          · intro x hx
            obtain ⟨i, hi, rfl⟩ := rngP_mem hx
            refine ⟨_, gN_ap (t := .no) rfl rfl, ?_⟩
            by_cases q : 1 + (i : Int) = 1 + (j : Int) <;> simp (disch := first | rfl | assumption | omega | simp [*]) [q]
        rw [vSeq_ap, vSet_ap, frO_ap, hc, ofR_ok]
        simp (disch := first | rfl | assumption | omega | simp [*]) [hF, f0]
        refine (hI _ _).mpr ⟨Fs ++ [F], .va (.f (.d (.int (1 + (j : Int))))), .va (.f (.d (.list (ptsP (unitP h (1 + (j : Int))))))), ⟨rfl, rfl⟩, ⟨by rw [List.length_append, wr.len]; rfl, fun k G hG => ?_⟩, ?_⟩
        · by_cases q : k < Fs.length
          · rw [List.getElem?_append_left q] at hG; exact wr.row k G hG
          · have e : k = j := by
              have := (List.getElem?_eq_some_iff.mp hG).1
              rw [List.length_append, wr.len] at this
              rw [wr.len] at q
              simp at this
              omega
            subst e
            rw [List.getElem?_append_right (by rw [wr.len]; exact Nat.le_refl _), wr.len, Nat.sub_self] at hG
            cases hG
            exact th
        · unfold heads
          rw [List.map_append, List.map_append]
          simp [List.getElem?_eq_getElem fl]
    · intro e h1
      obtain ⟨Fs, s2, s3, _, wr, rfl⟩ := (hI _ _).mp h1
      rw [rngP_length] at wr
      refine ⟨Fs, ?_, wr⟩
      rw [vRetV_va (s := SV.dl ((heads Fs).map .int)) 1 _ rfl]
      rfl
  obtain ⟨Fs, h1, h2⟩ := key
  exact ⟨Fs, run_ofO h1 (frF_dl _), h2⟩
def dot : List Int → List Int → Int
  | a :: as, b :: bs => a * b + dot as bs
  | _, _ => 0
def comb (n : Nat) : List Int → List (List Int) → List Int
  | c :: cs, F :: Fs => addC c (comb n cs Fs) F
  | _, _ => List.replicate n 0
theorem comb_length (n : Nat) : ∀ (cs : List Int) (Fs : List (List Int)), (∀ F ∈ Fs, F.length = n) → (comb n cs Fs).length = n
  | [], _, _ => List.length_replicate
  | _ :: _, [], _ => List.length_replicate
  | c :: cs, F :: Fs, h => by
    have ih := comb_length n cs Fs fun G m => h G (List.mem_cons_of_mem _ m)
    show (addC c (comb n cs Fs) F).length = n
    rw [addC_length _ _ _ (by rw [ih, h F List.mem_cons_self]), ih]
theorem comb_val (n : Nat) (x : Int) : ∀ (cs : List Int) (Fs : List (List Int)), (∀ F ∈ Fs, F.length = n) → peval (comb n cs Fs) x = dot cs (Fs.map fun F => peval F x)
  | [], _, _ => peval_rep x n
  | _ :: _, [], _ => peval_rep x n
  | c :: cs, F :: Fs, h => by
    have ih := comb_val n x cs Fs fun G m => h G (List.mem_cons_of_mem _ m)
    show peval (addC c (comb n cs Fs) F) x = c * peval F x + dot cs (Fs.map fun F => peval F x)
    rw [addC_val _ _ _ _ (by rw [comb_length n cs Fs fun G m => h G (List.mem_cons_of_mem _ m), h F List.mem_cons_self]), ih]
    omega
theorem dot_unit {p : Int} : ∀ (cs bs : List Int) (k : Nat), cs.length = bs.length → (∀ (i : Nat) (b : Int), bs[i]? = some b → Cg p b (if i = k then 1 else 0)) → Cg p (dot cs bs) (cs.getD k 0)
  | [], [], k, _, _ => by simpa [dot] using Cg.refl p 0
  | [], _ :: _, _, h, _ => by cases h
  | _ :: _, [], _, h, _ => by cases h
  | c :: cs, b :: bs, 0, hl, h => by
    have h0 := h 0 b rfl
    rw [if_pos rfl] at h0
    have z : Cg p (dot cs bs) 0 := by
      have e : ∀ (cs bs : List Int), (∀ (i : Nat) (b : Int), bs[i]? = some b → Cg p b 0) → Cg p (dot cs bs) 0 := by
        intro cs
        induction cs with
        | nil => intro bs _; exact Cg.refl _ _
        | cons c cs ih =>
          intro bs hb
          cases bs with
          | nil => exact Cg.refl _ _
          | cons b bs =>
            have := ((Cg.refl p c).mul (hb 0 b rfl)).add (ih bs fun i b hi => hb (i + 1) b (by simpa using hi))
            rw [Int.mul_zero, Int.add_zero] at this
            exact this
      exact e cs bs fun i b hi => by
        have := h (i + 1) b (by simpa using hi)
        rwa [if_neg (by omega)] at this
    have := ((Cg.refl p c).mul h0).add z
    rw [Int.mul_one, Int.add_zero] at this
    exact this
  | c :: cs, b :: bs, k + 1, hl, h => by
    have h0 := h 0 b rfl
    rw [if_neg (by omega)] at h0
    have ih := dot_unit cs bs k (by simpa using hl) fun i b hi => by
      have := h (i + 1) b (by simpa using hi)
      by_cases e : i = k
      · rw [if_pos (by omega)] at this; rw [if_pos e]; exact this
      · rw [if_neg (by omega)] at this; rw [if_neg e]; exact this
    have := ((Cg.refl p c).mul h0).add ih
    rw [Int.mul_zero, Int.zero_add] at this
    exact this
def hw (h : Int) (G : List Int) : List Int := (List.range h.toNat).map fun (k : Nat) => peval G (1 + (k : Int))
theorem peval_pad (x : Int) : ∀ (G : List Int) (n : Nat), peval (G ++ List.replicate n 0) x = peval G x
  | [], n => peval_rep x n
  | g :: G, n => by
    show g + x * peval (G ++ List.replicate n 0) x = g + x * peval G x
    rw [peval_pad x G n]
theorem head_val : ∀ F : List Int, peval F 0 = F.getD 0 0
  | [] => rfl
  | a :: F => by show a + 0 * _ = a; rw [Int.zero_mul, Int.add_zero]
theorem wt_law {p h f : Int} (t : Tb p h f) {Fs : List (List Int)} (wr : WtR p h Fs h.toNat) (G : List Int) (hG : (G.length : Int) ≤ h) : Cg p (dot (hw h G) (heads Fs)) (peval G 0) := by
  have tp := t.pos
  have thp := t.hp
  have Fl : ∀ F ∈ Fs, F.length = h.toNat := fun F m => by
    obtain ⟨k, hk, e⟩ := List.getElem_of_mem m
    rw [(wr.row k F (by rw [List.getElem?_eq_getElem hk, e])).len, unitP_length]
  have Hl : (hw h G).length = Fs.length := by unfold hw; rw [List.length_map, List.length_range, wr.len]
  -- the row made of all
  have cl := comb_length h.toNat (hw h G) Fs Fl
  have gl : (G ++ List.replicate (h.toNat - G.length) 0).length = h.toNat := by rw [List.length_append, List.length_replicate]; omega
  have z : Zr p (subL (comb h.toNat (hw h G) Fs) (G ++ List.replicate (h.toNat - G.length) 0)) := by
    refine roots_zr t ((List.range h.toNat).map fun (k : Nat) => 1 + (k : Int)) _ (by unfold subL; simp [cl]; omega) (fun x m => ?_) ?_ (fun x m => ?_)
    · obtain ⟨k, hk, rfl⟩ := List.mem_map.mp m
      have := List.mem_range.mp hk
      omega
    · rw [List.pairwise_map]
      exact List.pairwise_lt_range.imp fun h => by omega
    · obtain ⟨k, hk, rfl⟩ := List.mem_map.mp m
      have kl := List.mem_range.mp hk
      rw [subL_val _ _ _ (by rw [cl, gl]), peval_pad, comb_val _ _ _ _ Fl]
      have du := dot_unit (p := p) (hw h G) (Fs.map fun F => peval F (1 + (k : Int))) k (by rw [Hl, List.length_map]) fun i b hi => by
        rw [List.getElem?_map] at hi
        cases hF : Fs[i]? with
        | none => rw [hF] at hi; cases hi
        | some F =>
          rw [hF] at hi
          have e := Option.some.inj hi
          have th := wr.row i F hF
          have v := th.val (1 + (k : Int), if 1 + (k : Int) = 1 + (i : Int) then 1 else 0) (List.mem_map.mpr ⟨k, hk, rfl⟩)
          rw [← e]
          by_cases q : i = k
          · subst q; simpa using v
          · rw [if_neg q]
            have : ¬ (1 + (k : Int) = 1 + (i : Int)) := by omega
            rw [if_neg this] at v
            exact v
      have hk2 : (hw h G).getD k 0 = peval G (1 + (k : Int)) := by
        unfold hw
        simp only [List.getD, List.getElem?_map, List.getElem?_range kl]
        rfl
      rw [hk2] at du
      obtain ⟨c, hc⟩ := du
      exact ⟨c, by rw [hc]; omega⟩
  have v0 := zr_val (x := 0) _ z
  rw [subL_val _ _ _ (by rw [cl, gl]), peval_pad, comb_val _ _ _ _ Fl] at v0
  have e : (Fs.map fun F => peval F 0) = heads Fs := by
    unfold heads
    exact List.map_congr_left fun F _ => head_val F
  rw [e] at v0
  obtain ⟨c, hc⟩ := v0
  exact ⟨c, by omega⟩
theorem heads_rng {p h : Int} (hp : 0 < p) {Fs : List (List Int)} {j : Nat} (wr : WtR p h Fs j) : Rng p (heads Fs) := fun c m => by
  unfold heads at m
  obtain ⟨F, hF, rfl⟩ := List.mem_map.mp m
  obtain ⟨k, hk, e⟩ := List.getElem_of_mem hF
  have th := wr.row k F (by rw [List.getElem?_eq_getElem hk, e])
  simp only [List.getD]
  cases z : F[0]? with
  | none => exact ⟨by simp, by simpa using hp⟩
  | some c => exact th.rng.nth z
theorem heads_length {p h : Int} {Fs : List (List Int)} {j : Nat} (wr : WtR p h Fs j) : (heads Fs).length = j := by unfold heads; rw [List.length_map, wr.len]
end VL

set_option Elab.async false
set_option linter.all false
set_option maxRecDepth 100000
set_option maxHeartbeats 4000000
namespace VL
open PySem PySem.Spec PyProof.Rows L2

def okFrom (h : Int) : Int → List Int → Bool
  | _, [] => true
  | b, a :: r => (decide (b < a) && decide (a ≤ h)) && okFrom h a r
def hsOk (h : Int) (hs : List Int) : Bool := okFrom h 0 hs
theorem run_check_hands (p h f : Int) (hs : List Int) : run S_check_hands [tbl p h f, .d (.list (hs.map .int))] = if hsOk h hs = true then .ok (.d .none) else .err "BadHands" := by
  unfold S_check_hands B_check_hands hsOk
  rw [run_mk]
  have key : ∀ (r : List Int) (b : Int) (s3 : Slot), free s3 = true → fin (forL (gN 3) (vSeq (vIfS (vNotT (toT (vChain .lt .le (vVarD 2) (vVarD 3) (toD (vFld "Table" "hands" (vVar 0)))))) (vRaise "BadHands") vSkip) (vSet 2 (vVar 3))) (r.map .int) [.va (.f (tbl p h f)), .va (.f (.d (.list (hs.map .int)))), .va (.f (.d (.int b))), s3]) = if okFrom h b r = true then .ok (.d .none) else .err "BadHands" := by
    intro r
    induction r with
    | nil => intro b s3 _; rfl
    | cons a r ih =>
      intro b s3 h3
      rw [List.map_cons, forL_cons, tgt_some (gN_ap (t := s3) rfl h3)]
      have ih2 := ih a (.va (.f (.d (.int a)))) rfl
      by_cases h1 : b < a
      · by_cases h2 : a ≤ h
        · simp (disch := first | rfl | assumption | omega | simp [*]) [h1, h2]
          rw [ih2]
          simp [okFrom, h1, h2]
        · simp (disch := first | rfl | assumption | omega | simp [*]) [h1, h2, okFrom]
      · simp (disch := first | rfl | assumption | omega | simp [*]) [h1, okFrom]
  simp (disch := first | rfl | assumption | omega | simp [*])
  exact key hs 0 .no rfl
theorem okFrom_spec (h : Int) : ∀ (hs : List Int) (b : Int), okFrom h b hs = true → hs.Pairwise (· < ·) ∧ ∀ a ∈ hs, b < a ∧ a ≤ h
  | [], _, _ => ⟨List.Pairwise.nil, fun a m => by cases m⟩
  | a :: r, b, z => by
    unfold okFrom at z
    simp only [Bool.and_eq_true, decide_eq_true_iff] at z
    obtain ⟨p1, p2⟩ := okFrom_spec h r a z.2
    refine ⟨List.pairwise_cons.mpr ⟨fun c m => (p2 c m).1, p1⟩, fun c m => ?_⟩
    rcases List.mem_cons.mp m with e | m
    · subst e; exact z.1
    · have := p2 c m; omega
theorem okFrom_of (h : Int) : ∀ (hs : List Int) (b : Int), hs.Pairwise (· < ·) → (∀ a ∈ hs, b < a ∧ a ≤ h) → okFrom h b hs = true
  | [], _, _, _ => rfl
  | a :: r, b, p1, p2 => by
    rw [List.pairwise_cons] at p1
    unfold okFrom
    simp only [Bool.and_eq_true, decide_eq_true_iff]
    exact ⟨p2 a List.mem_cons_self, okFrom_of h r a p1.2 fun c m => ⟨p1.1 c m, (p2 c (List.mem_cons_of_mem _ m)).2⟩⟩
def vprod (p : Int) : List Int → Int → Int
  | [], _ => 1
  | a :: r, x => (1 + x * (-bk p a)) * vprod p r x
end VL

set_option Elab.async false
set_option linter.all false
set_option maxRecDepth 100000
set_option maxHeartbeats 4000000
namespace VL
open PySem PySem.Spec PyProof.Rows L2

structure DS where
  left : List (List Int)
  chance : List Int
  shares : List (List Int)
  letters : List PyData
def lst (r : List Int) : PyData := .list (r.map .int)
def dsk (p h f : Int) (W : List Int) (s : DS) : SV := .obj "Desk" [("table", .f (tbl p h f)), ("left", SV.dll (rowsD s.left)), ("chance", .f (.d (lst s.chance))), ("shares", SV.dl (s.shares.map lst)), ("letters", SV.dl s.letters), ("weights", .f (.d (lst W)))]
section
variable (p h f : Int) (W : List Int) (s : DS) (i : Nat) (ps : List Pst)
@[simp] theorem pl_table : plS (.fld "Desk" "table") (i, ps, dsk p h f W s) = .ok (i, ps ++ [.fld "Desk" "table"], .f (tbl p h f)) := by rfl
@[simp] theorem pl_left : plS (.fld "Desk" "left") (i, ps, dsk p h f W s) = .ok (i, ps ++ [.fld "Desk" "left"], SV.dll (rowsD s.left)) := by rfl
@[simp] theorem pl_chance : plS (.fld "Desk" "chance") (i, ps, dsk p h f W s) = .ok (i, ps ++ [.fld "Desk" "chance"], .f (.d (lst s.chance))) := by rfl
@[simp] theorem pl_shares : plS (.fld "Desk" "shares") (i, ps, dsk p h f W s) = .ok (i, ps ++ [.fld "Desk" "shares"], SV.dl (s.shares.map lst)) := by rfl
@[simp] theorem pl_letters : plS (.fld "Desk" "letters") (i, ps, dsk p h f W s) = .ok (i, ps ++ [.fld "Desk" "letters"], SV.dl s.letters) := by rfl
@[simp] theorem pl_weights : plS (.fld "Desk" "weights") (i, ps, dsk p h f W s) = .ok (i, ps ++ [.fld "Desk" "weights"], .f (.d (lst W))) := by rfl
theorem upd_letters (ls : List PyData) : updS (dsk p h f W s) [.fld "Desk" "letters"] (SV.dl ls) = dsk p h f W { s with letters := ls } := by rfl
theorem upd_shares (ls : List (List Int)) : updS (dsk p h f W s) [.fld "Desk" "shares"] (SV.dl (ls.map lst)) = dsk p h f W { s with shares := ls } := by rfl
theorem upd_left (k : Int) (q q' : List Int) (h0 : 0 ≤ k) (hk : s.left[k.toNat]? = some q) : updS (dsk p h f W s) [.fld "Desk" "left", .ix k] (SV.dl (q'.map .int)) = dsk p h f W { s with left := s.left.set k.toNat q' } := by
  have ha : atI (rowsD s.left) k = some (q.map .int) := by rw [atI_pos h0]; unfold rowsD; rw [List.getElem?_map, hk]; rfl
  have e := upd_dll (q' := q'.map .int) h0 ha
  have es : stepS (dsk p h f W s) (.fld "Desk" "left") = some (SV.dll (rowsD s.left)) := by rfl
  show (match stepS (dsk p h f W s) (.fld "Desk" "left") with | some u => setS1 (dsk p h f W s) (.fld "Desk" "left") (updS u [.ix k] (SV.dl (q'.map .int))) | none => dsk p h f W s) = _
  rw [es]
  dsimp only
  rw [e]
  rw [show (rowsD s.left).set k.toNat (q'.map PyData.int) = rowsD (s.left.set k.toNat q') by unfold rowsD; rw [List.map_set]]
  rfl
theorem setF_chance (x : List Int) : setF "Desk" "chance" (.f (.d (lst x))) (dsk p h f W s) = some (dsk p h f W { s with chance := x }) := by rfl
end
theorem putP_rf {e : Env} {i : Nat} {t u : SV} {ps : List Pst} {ys : List SV} (h : e[i]? = some (.rf t)) : putP e (i, ps, u) ys = some ((e.map dv).set i (.rf (updS t ps (.own ys)))) := by
  unfold putP
  rw [tree_rf h]
  rfl
theorem app_letters {p h f : Int} {W : List Int} {s : DS} {e : Env} {i : Nat} {x : PyData} (he : e[i]? = some (.rf (dsk p h f W s))) (hl : s.letters.length < 16777216) :
    vApp1 e (i, [.fld "Desk" "letters"], SV.dl s.letters) (.f (.d x)) = .ok (.f (.d .none)) ((e.map dv).set i (.rf (dsk p h f W { s with letters := s.letters ++ [x] }))) := by
  show cIf ((s.letters.map fun p => SV.f (.d p)).length < 16777216) (oE (.f (.d .none)) (putP e (i, [.fld "Desk" "letters"], SV.dl s.letters) ((s.letters.map fun p => SV.f (.d p)) ++ [.f (.d x)]))) .bad = _
  rw [cIf_pos (by rw [List.length_map]; exact hl), putP_rf he]
  rw [show (s.letters.map fun p => SV.f (.d p)) ++ [SV.f (.d x)] = (s.letters ++ [x]).map fun p => SV.f (.d p) by rw [List.map_append]; rfl]
  show Out.ok _ ((e.map dv).set i (.rf (updS (dsk p h f W s) [.fld "Desk" "letters"] (SV.dl (s.letters ++ [x]))))) = _
  rw [upd_letters]
theorem pop_left {p h f : Int} {W : List Int} {s : DS} {e : Env} {i : Nat} {k : Int} {y : Int} {q : List Int} (he : e[i]? = some (.rf (dsk p h f W s))) (h0 : 0 ≤ k) (hk : s.left[k.toNat]? = some (y :: q)) :
    pop1 e (i, [.fld "Desk" "left", .ix k], SV.dl ((y :: q).map .int)) = .ok (.f (.d (.int y))) ((e.map dv).set i (.rf (dsk p h f W { s with left := s.left.set k.toNat q }))) := by
  show oE (.f (.d (.int y))) (putP e (i, [.fld "Desk" "left", .ix k], SV.dl ((y :: q).map .int)) ((q.map PyData.int).map fun p => .f (.d p))) = _
  rw [putP_rf he]
  show Out.ok _ ((e.map dv).set i (.rf (updS (dsk p h f W s) [.fld "Desk" "left", .ix k] (SV.dl (q.map .int))))) = _
  rw [upd_left p h f W s k (y :: q) q h0 hk]
def Meth' (S : Fn) (t : SV) (xs : List FV) (r : SV) (t' : SV) : Prop := ∃ as, S (.rf t :: xs.map vaF) = .ret r (.rf t' :: as)
def Flow.md (fl : Flow) (r t' : SV) : Prop := (∃ e, fl = .nx (.rf t' :: e) ∧ r = .f (.d .none)) ∨ (∃ e, fl = .rt r (.rf t' :: e))
theorem meth_of {nl : Nat} {body : ST} {t : SV} {xs : List FV} {r t' : SV} (h : (body (.rf t :: (xs.map vaF ++ List.replicate nl .no))).md r t') : Meth' (mkFn nl body) t xs r t' := by
  have e0 : mkFn nl body (.rf t :: xs.map vaF) = match body (.rf t :: (xs.map vaF ++ List.replicate nl .no)) with
    | .rt s e => .ret s (backA (.rf t :: xs.map vaF) e)
    | .nx e => .ret (.f (.d .none)) (backA (.rf t :: xs.map vaF) e)
    | .err c _ => .exc c
    | .bad => .bad := rfl
  rcases h with ⟨e, h1, h2⟩ | ⟨e, h1⟩
  · refine ⟨backA (xs.map vaF) e, ?_⟩
    rw [e0, h1, h2]
    rfl
  · refine ⟨backA (xs.map vaF) e, ?_⟩
    rw [e0, h1]
    rfl
theorem md_nx (t' : SV) (e : Env) : (Flow.nx (.rf t' :: e)).md (.f (.d .none)) t' := .inl ⟨e, rfl, rfl⟩
theorem md_rt (r t' : SV) (e : Env) : (Flow.rt r (.rf t' :: e)).md r t' := .inr ⟨e, rfl⟩
theorem md_wp {fl : Flow} {k : ST} {r t' : SV} (h : fl.wp fun e => (k e).md r t') : (fl.andThen k).md r t' := by
  cases fl with
  | nx e => exact h
  | _ => exact h.elim
theorem md_of_wp {fl : Flow} {t' : SV} (h : fl.wp fun e => ∃ e', e = .rf t' :: e') : fl.md (.f (.d .none)) t' := by
  cases fl with
  | nx e => obtain ⟨e', rfl⟩ := h; exact md_nx t' e'
  | _ => exact h.elim
theorem md_step {g k : ST} {e e' : Env} {r t' : SV} (h : g e = .nx e') (q : (k e').md r t') : (vSeq g k e).md r t' := by
  rw [vSeq_ap, h]
  exact q
theorem slots_fz (e : Env) : ∀ xs : List FV, slotsOf e (xs.map .fz) = some (xs.map vaF)
  | [] => rfl
  | x :: xs => by
    show (match slot1 e (.fz x), slotsOf e (xs.map .fz) with | some s, some r => some (s :: r) | _, _ => none) = _
    rw [slots_fz e xs]
    rfl
theorem refs_fz : ∀ xs : List FV, refsOf (xs.map .fz) = []
  | [] => rfl
  | x :: xs => refs_fz xs
theorem idx_fz (k : Nat) : ∀ xs : List FV, idxRef (xs.map .fz) k = none
  | [] => rfl
  | x :: xs => by
    show (idxRef (xs.map .fz) k).map (· + 1) = none
    rw [idx_fz k xs]; rfl
theorem back_one (e : Env) (i : Nat) (xs : List FV) (t' : SV) (as : List Slot) (sl : Slot) (h : e[i]? = some sl) (hs : back1 sl (some (.rf t')) = sl') : backE e (.ref i :: xs.map .fz) (.rf t' :: as) = (e.map dv).set i sl' := by
  unfold backE
  refine List.ext_getElem (by simp) fun j h1 h2 => ?_
  rw [List.getElem_mapIdx, List.getElem_set]
  have hid : idxRef (.ref i :: xs.map .fz) j = if i = j then some 0 else (idxRef (xs.map .fz) j).map (· + 1) := rfl
  rw [hid, idx_fz]
  have jl : j < e.length := by simpa using h1
  by_cases q : i = j
  · subst q
    rw [if_pos rfl, if_pos rfl]
    have e2 : e[i] = sl := by
      have := List.getElem?_eq_some_iff.mp h
      exact this.2
    show back1 e[i] (some (.rf t')) = _
    rw [e2, hs]
  · rw [if_neg q, if_neg q]
    simp
theorem callX_rf {S : Fn} {i : Nat} {xs : List FV} {e : Env} {t t' r : SV} (h : e[i]? = some (.rf t)) (m : Meth' S t xs r t') : callX S (.ref i :: xs.map .fz) e = .ok r ((e.map dv).set i (.rf t')) := by
  obtain ⟨as, m⟩ := m
  unfold callX
  have hs : slotsOf e (.ref i :: xs.map .fz) = some (.rf t :: xs.map vaF) := by
    show (match slot1 e (.ref i), slotsOf e (xs.map .fz) with | some s, some r => some (s :: r) | _, _ => none) = _
    rw [slots_fz, show slot1 e (.ref i) = some (.rf t) by show (tree e i).map _ = _; rw [tree_rf h]; rfl]
  rw [hs]
  dsimp only
  rw [show refsOf (.ref i :: xs.map .fz) = i :: refsOf (xs.map .fz) from rfl, refs_fz, if_pos (by simp), m]
  dsimp only
  rw [back_one e i xs t' as (.rf t) h (sl' := .rf t') rfl]
theorem callX_va {S : Fn} {i : Nat} {xs : List FV} {e : Env} {t t' r : SV} (h : e[i]? = some (.va t)) (m : Meth' S t xs r t') : callX S (.ref i :: xs.map .fz) e = .ok r ((e.map dv).set i (.va t')) := by
  obtain ⟨as, m⟩ := m
  unfold callX
  have hs : slotsOf e (.ref i :: xs.map .fz) = some (.rf t :: xs.map vaF) := by
    show (match slot1 e (.ref i), slotsOf e (xs.map .fz) with | some s, some r => some (s :: r) | _, _ => none) = _
    rw [slots_fz, show slot1 e (.ref i) = some (.rf t) by show (tree e i).map _ = _; rw [tree_va h]; rfl]
  rw [hs]
  dsimp only
  rw [show refsOf (.ref i :: xs.map .fz) = i :: refsOf (xs.map .fz) from rfl, refs_fz, if_pos (by simp), m]
  dsimp only
  rw [back_one e i xs t' as (.va t) h (sl' := .va t') rfl]
theorem recv_dsk {p h f : Int} {W : List Int} {s : DS} {e : Env} {i : Nat} (he : rd e i = some (dsk p h f W s)) {m : Str} (hm : m ∈ (["send", "deal", "summed", "local", "made", "step"] : List Str)) : recv e i "Desk" m = true := by
  unfold recv
  rw [he]
  simp only [List.mem_cons, List.not_mem_nil, or_false] at hm
  rcases hm with rfl | rfl | rfl | rfl | rfl | rfl <;> rfl
theorem methX_rf {m : Str} {S : Fn} {i : Nat} {fs : Env → Out (List AV)} {e e1 : Env} {xs : List FV} {p h f : Int} {W : List Int} {s s1 : DS} {t' r : SV} (hm : m ∈ (["send", "deal", "summed", "local", "made", "step"] : List Str)) (h0 : e[i]? = some (.rf (dsk p h f W s))) (ha : fs e = .ok (xs.map .fz) e1) (h1 : e1[i]? = some (.rf (dsk p h f W s1))) (mm : Meth' S (dsk p h f W s1) xs r t') :
    vMethX "Desk" m S i fs e = .ok r ((e1.map dv).set i (.rf t')) := by
  unfold vMethX
  rw [if_pos (recv_dsk (by rw [rd_ap, h0, rdS_rf]) hm), ha, obind_ok]
  exact callX_rf h1 mm
theorem methX_va {m : Str} {S : Fn} {i : Nat} {fs : Env → Out (List AV)} {e e1 : Env} {xs : List FV} {p h f : Int} {W : List Int} {s s1 : DS} {t' r : SV} (hm : m ∈ (["send", "deal", "summed", "local", "made", "step"] : List Str)) (h0 : e[i]? = some (.va (dsk p h f W s))) (ha : fs e = .ok (xs.map .fz) e1) (h1 : e1[i]? = some (.va (dsk p h f W s1))) (mm : Meth' S (dsk p h f W s1) xs r t') :
    vMethX "Desk" m S i fs e = .ok r ((e1.map dv).set i (.va t')) := by
  unfold vMethX
  rw [if_pos (recv_dsk (by rw [rd_ap, h0, rdS_va]) hm), ha, obind_ok]
  exact callX_va h1 mm
def runV (S : Fn) (t : SV) (xs : List FV) : Res SV := outR (S (.vw t :: xs.map vaF))
theorem methP_any {m : Str} {S : Fn} {i : Nat} {fs : Env → Res (List AV)} {e : Env} {xs : List FV} {p h f : Int} {W : List Int} {s : DS} (hm : m ∈ (["send", "deal", "summed", "local", "made", "step"] : List Str)) (h0 : rd e i = some (dsk p h f W s)) (ha : fs e = .ok (xs.map .fz)) :
    vMethP "Desk" m S i fs e = runV S (dsk p h f W s) xs := by
  unfold vMethP
  rw [if_pos (recv_dsk h0 hm), ha, bind_ok]
  unfold callP
  have hs : slotsOf e (.see i :: xs.map .fz) = some (.vw (dsk p h f W s) :: xs.map vaF) := by
    show (match slot1 e (.see i), slotsOf e (xs.map .fz) with | some s, some r => some (s :: r) | _, _ => none) = _
    rw [slots_fz, show slot1 e (.see i) = some (.vw (dsk p h f W s)) by show (rd e i).map _ = _; rw [h0]; rfl]
  rw [hs]
  dsimp only
  rw [show refsOf (.see i :: xs.map .fz) = refsOf (xs.map .fz) from rfl, refs_fz, if_pos rfl]
  rfl
theorem runV_mk (nl : Nat) (body : ST) (t : SV) (xs : List FV) : runV (mkFn nl body) t xs = finO (body (.vw t :: (xs.map vaF ++ List.replicate nl .no))) := by
  unfold runV mkFn
  show outR (match body (.vw t :: (xs.map vaF ++ List.replicate nl .no)) with | .rt s e => .ret s (backA _ e) | .nx e => .ret (.f (.d .none)) (backA _ e) | .err c _ => .exc c | .bad => .bad) = _
  cases body (.vw t :: (xs.map vaF ++ List.replicate nl .no)) <;> rfl
@[simp] theorem pN_ap (e : Env) : pN e = .ok [] := rfl
@[simp] theorem pF_ap (f : FP) (g : Env → Res (List AV)) (e : Env) : pF f g e = (f e).bind fun x => (g e).bind fun xs => .ok (.fz x :: xs) := rfl
@[simp] theorem xP_ap (f : Env → Res (List AV)) (e : Env) : xP f e = oR (f e) fun xs => .ok xs e := rfl
@[simp] theorem xF_ap (f : FP) (g : Env → Out (List AV)) (e : Env) : xF f g e = oR (f e) fun x => (g e).bind fun xs e => .ok (.fz x :: xs) e := rfl
@[simp] theorem xE_ap (f : FE) (g : Env → Out (List AV)) (e : Env) : xE f g e = (f e).bind (xE1 g) := rfl
@[simp] theorem xE1_f (g : Env → Out (List AV)) (x : FV) (e : Env) : xE1 g (.f x) e = (g e).bind fun xs e => .ok (.fz x :: xs) e := rfl
end VL

set_option Elab.async false
set_option linter.all false
set_option maxRecDepth 100000
set_option maxHeartbeats 4000000
namespace VL
open PySem PySem.Spec PyProof.Rows L2

def sentI (n hand : Int) (nums : List Int) (j : Nat) : List PyData := ((List.range j).filter fun (k : Nat) => decide (1 + (k : Int) ≠ hand)).map fun (k : Nat) => .tuple [.int n, .int hand, .int (1 + (k : Int)), .int (nums.getD k 0)]
def sentM (n h hand : Int) (nums : List Int) : List PyData := sentI n hand nums h.toNat
theorem sentI_len (n hand : Int) (nums : List Int) (j : Nat) : (sentI n hand nums j).length ≤ j := by
  unfold sentI
  rw [List.length_map]
  exact Nat.le_trans (List.length_filter_le _ _) (by simp)
theorem sentI_succ (n hand : Int) (nums : List Int) (j : Nat) : sentI n hand nums (j + 1) = sentI n hand nums j ++ (if 1 + (j : Int) ≠ hand then [.tuple [.int n, .int hand, .int (1 + (j : Int)), .int (nums.getD j 0)]] else []) := by
  unfold sentI
  rw [List.range_succ, List.filter_append, List.map_append]
  congr 1
  by_cases q : 1 + (j : Int) = hand <;> simp [q]
theorem meth_send (p h f hand : Int) (W nums : List Int) (s : DS) (hh : 0 ≤ h ∧ h ≤ 7) (hn : (nums.length : Int) = h) (hl : s.letters.length < 16000000) :
    Meth' S_Desk_send (dsk p h f W s) [.d (.int hand), .d (lst nums)] (.f (.d .none)) (dsk p h f W { s with letters := s.letters ++ sentM s.shares.length h hand nums }) := by
  unfold S_Desk_send B_Desk_send
  refine meth_of (md_of_wp ?_)
  obtain ⟨I, hI⟩ : ∃ I : Nat → Env → Prop, ∀ j e, I j e ↔ ∃ s3, free s3 = true ∧ e = [.rf (dsk p h f W { s with letters := s.letters ++ sentI s.shares.length hand nums j }), .va (.f (.d (.int hand))), .va (.f (.d (lst nums))), s3] := ⟨_, fun _ _ => Iff.rfl⟩
  simp (disch := first | rfl | assumption | omega | simp [*])
  refine wp_for I ?_ ?_ ?_
  · exact (hI _ _).mpr ⟨.no, rfl, by simp [sentI]⟩
  · intro j x e hx h1
    obtain ⟨s3, h3, rfl⟩ := (hI _ _).mp h1
    obtain ⟨hj, rfl⟩ := rng_get hx
    have jl : (j : Int) < nums.length := by omega
    have ha := getD_at (xs := nums) (a := (j : Int)) (by omega) jl
    have sl := sentI_len s.shares.length hand nums j
    have e1 : (1 : Int) + (j : Int) - 1 = j := by omega
    have hix : ixP (lst nums) (.int (1 + (j : Int) - 1)) = .ok (.d (.int (nums.getD j 0))) := by
      unfold lst
      rw [e1, ixP_l, ha]
      rfl
    have hsl : ((s.shares.map lst).length : Int) = s.shares.length := by rw [List.length_map]
    rw [gN_ap (t := s3) rfl h3, oW_some]
    by_cases q : 1 + (j : Int) = hand
    · simp (disch := first | rfl | assumption | omega | simp [*]) [q]
      refine (hI _ _).mpr ⟨.va (.f (.d (.int hand))), rfl, ?_⟩
      rw [sentI_succ, if_neg (by simp [q]), List.append_nil]
    · have hap := app_letters (p := p) (h := h) (f := f) (W := W) (s := { s with letters := s.letters ++ sentI s.shares.length hand nums j }) (e := [.rf (dsk p h f W { s with letters := s.letters ++ sentI s.shares.length hand nums j }), .va (.f (.d (.int hand))), .va (.f (.d (lst nums))), .va (.f (.d (.int (1 + (j : Int)))))]) (i := 0) (x := .tuple [.int s.shares.length, .int hand, .int (1 + (j : Int)), .int (nums.getD j 0)]) rfl (by show (s.letters ++ _).length < _; rw [List.length_append]; omega)
      have et : vTup (vCons (toD (plL (plF "Desk" "shares" (plN 0)))) (vCons (toD (vVar 1)) (vCons (toD (vVar 3)) (vCons (toD (v2 ixP (vVarD 2) (toD (v2 subI (vVarD 3) (toD (vC (.int 1))))))) vNil)))) [.rf (dsk p h f W { s with letters := s.letters ++ sentI s.shares.length hand nums j }), .va (.f (.d (.int hand))), .va (.f (.d (lst nums))), .va (.f (.d (.int (1 + (j : Int)))))] = .ok (.d (.tuple [.int s.shares.length, .int hand, .int (1 + (j : Int)), .int (nums.getD j 0)])) := by
        simp (disch := first | rfl | assumption | omega | simp [*]) [hix]
      have ec : (toT (vCmp .ne (vVarD 3) (vVarD 1))) [.rf (dsk p h f W { s with letters := s.letters ++ sentI s.shares.length hand nums j }), .va (.f (.d (.int hand))), .va (.f (.d (lst nums))), .va (.f (.d (.int (1 + (j : Int)))))] = .ok true := by
        simp [q]
      have ep : ((plF "Desk" "letters" (plN 0)) [.rf (dsk p h f W { s with letters := s.letters ++ sentI s.shares.length hand nums j }), .va (.f (.d (.int hand))), .va (.f (.d (lst nums))), .va (.f (.d (.int (1 + (j : Int)))))]).bind lstP = .ok (0, [.fld "Desk" "letters"], SV.dl (s.letters ++ sentI s.shares.length hand nums j)) := by
        simp
      rw [show (List.set [.rf (dsk p h f W { s with letters := s.letters ++ sentI s.shares.length hand nums j }), .va (.f (.d (.int hand))), .va (.f (.d (lst nums))), s3] 3 (.va (.f (.d (.int (1 + (j : Int))))))) = [.rf (dsk p h f W { s with letters := s.letters ++ sentI s.shares.length hand nums j }), .va (.f (.d (.int hand))), .va (.f (.d (lst nums))), .va (.f (.d (.int (1 + (j : Int)))))] from rfl]
      rw [vIfS_ap, ec, ofR_ok, if_pos rfl, vEx_ap, vApp_ap, ep, oR_ok, unO_ap, et, bind_ok, oR_ok, hap, ofO_ok]
      refine (hI _ _).mpr ⟨.va (.f (.d (.int (1 + (j : Int))))), rfl, ?_⟩
      rw [sentI_succ, if_pos q, ← List.append_assoc]
      rfl
  · intro e h1
    obtain ⟨s3, h3, rfl⟩ := (hI _ _).mp h1
    rw [rngP_length]
    exact ⟨_, rfl⟩
def dealS (p h f hand num : Int) (s : DS) : DS := { s with chance := s.chance.drop f.toNat, letters := s.letters ++ sentM s.shares.length h hand (dealtM p h num (s.chance.take f.toNat)) }
theorem dealtM_length (p h n : Int) (ch : List Int) : (dealtM p h n ch).length = h.toNat := by unfold dealtM; simp
theorem meth_deal (p h f hand num : Int) (W : List Int) (s : DS) (hp : 0 < p ∧ p < 1000) (hh : 0 ≤ h ∧ h ≤ 7) (hf : 0 ≤ f ∧ f ≤ 2) (hl : s.letters.length < 16000000) :
    Meth' S_Desk_deal (dsk p h f W s) [.d (.int hand), .d (.int num)] (.f (.d (lst (dealtM p h num (s.chance.take f.toNat))))) (dsk p h f W (dealS p h f hand num s)) := by
  unfold S_Desk_deal B_Desk_deal
  refine meth_of ?_
  have ct := cut_to (s.chance.map PyData.int) (b := f) (by omega)
  have cf := cut_from (s.chance.map PyData.int) (a := f) (by omega)
  rw [← List.map_take] at ct
  rw [← List.map_drop] at cf
  have hd := run_dealt p h f num (s.chance.take f.toNat) hp.1 hp.2 (by omega) (by omega) (by rw [List.length_take]; omega)
  have dl := dealtM_length p h num (s.chance.take f.toNat)
  unfold dealS
  generalize hdm : dealtM p h num (s.chance.take f.toNat) = made at *
  refine md_step (e' := [.rf (dsk p h f W s), .va (.f (.d (.int hand))), .va (.f (.d (.int num))), .va (.f (.d (.int f))), .no, .no]) (by simp (disch := first | rfl | assumption | omega | simp [*])) ?_
  refine md_step (e' := [.rf (dsk p h f W s), .va (.f (.d (.int hand))), .va (.f (.d (.int num))), .va (.f (.d (.int f))), .va (.f (.d (lst (s.chance.take f.toNat)))), .no]) ?_ ?_
  · have e1 : slP (lst s.chance) none (some f) = .ok (SV.dl ((s.chance.take f.toNat).map .int)) := by unfold lst; rw [slP_l, ct]
    simp (disch := first | rfl | assumption | omega | simp [*]) [e1]
    unfold lst; rw [List.map_take]
  refine md_step (e' := [.rf (dsk p h f W { s with chance := s.chance.drop f.toNat }), .va (.f (.d (.int hand))), .va (.f (.d (.int num))), .va (.f (.d (.int f))), .va (.f (.d (lst (s.chance.take f.toNat)))), .no]) ?_ ?_
  · have e1 : slP (lst s.chance) (some f) none = .ok (SV.dl ((s.chance.drop f.toNat).map .int)) := by unfold lst; rw [slP_l, cf]
    have ev : unO (frO (vSl (toD (plP (plF "Desk" "chance" (plN 0)))) (vPart (vVarD 3)) vNoPart)) [.rf (dsk p h f W s), .va (.f (.d (.int hand))), .va (.f (.d (.int num))), .va (.f (.d (.int f))), .va (.f (.d (lst (s.chance.take f.toNat)))), .no] = .ok (.f (.d (lst (s.chance.drop f.toNat)))) := by
      simp (disch := first | rfl | assumption | omega | simp [*]) [e1]
      unfold lst; rw [List.map_drop]
    unfold vSetF
    rw [ev, ofR_ok, tree_rf (s := dsk p h f W s) rfl]
    dsimp only
    rw [setF_chance]
    rfl
  refine md_step (e' := [.rf (dsk p h f W { s with chance := s.chance.drop f.toNat }), .va (.f (.d (.int hand))), .va (.f (.d (.int num))), .va (.f (.d (.int f))), .va (.f (.d (lst (s.chance.take f.toNat)))), .va (.f (.d (lst made)))]) ?_ ?_
  · have hd' : run S_dealt [tbl p h f, .d (.int num), .d (lst (s.chance.take f.toNat))] = .ok (.d (lst made)) := hd
    simp (disch := first | rfl | assumption | omega | simp [*]) [hd']
  have ms := meth_send p h f hand W made { s with chance := s.chance.drop f.toNat } hh (by omega) hl
  refine md_step (e' := [.rf (dsk p h f W { s with chance := s.chance.drop f.toNat, letters := s.letters ++ sentM s.shares.length h hand made }), .va (.f (.d (.int hand))), .va (.f (.d (.int num))), .va (.f (.d (.int f))), .va (.f (.d (lst (s.chance.take f.toNat)))), .va (.f (.d (lst made)))]) ?_ ?_
  · rw [vEx_ap, methX_rf (xs := [.d (.int hand), .d (lst made)]) (by simp) rfl (by simp; rfl) rfl ms]
    rfl
  · simp (disch := first | rfl | assumption | omega | simp [*])
    exact md_rt _ _ _
end VL

set_option Elab.async false
set_option linter.all false
set_option maxRecDepth 100000
set_option maxHeartbeats 4000000
namespace VL
open PySem PySem.Spec PyProof.Rows L2

theorem zip_rows : ∀ (c : List Int) (ls : List (List Int)), zipP (c.map .int) (ls.map lst) = (c.zip ls).map fun x => .tuple [.int x.1, lst x.2]
  | [], _ => rfl
  | _ :: _, [] => rfl
  | a :: c, r :: ls => by
    show PyData.tuple [.int a, lst r] :: zipP (c.map .int) (ls.map lst) = _
    rw [zip_rows c ls]; rfl
theorem dot_zip (k : Nat) : ∀ (c : List Int) (ls : List (List Int)), ((c.zip ls).map fun x => x.1 * x.2.getD k 0).sum = dot c (ls.map fun r => r.getD k 0)
  | [], _ => by simp [dot]
  | _ :: _, [] => by simp [dot]
  | a :: c, r :: ls => by
    show a * r.getD k 0 + ((c.zip ls).map fun x => x.1 * x.2.getD k 0).sum = a * r.getD k 0 + dot c (ls.map fun r => r.getD k 0)
    rw [dot_zip k c ls]
def summedM (p h : Int) (ls : List (List Int)) (c : List Int) : List Int := (List.range h.toNat).map fun (k : Nat) => dot c (ls.map fun r => r.getD k 0) % p
theorem meth_summed (p h f : Int) (W : List Int) (s : DS) (ls : List (List Int)) (c : List Int) (hp : 0 < p) (hh : 0 ≤ h ∧ h ≤ 7) (hl : ls.length < 1000) (hc : c.length < 1000) (rl : ∀ r ∈ ls, (r.length : Int) = h) (rc : ∀ x ∈ c, 0 ≤ x ∧ x < 1000) :
    Meth' S_Desk_summed (dsk p h f W s) [.d (.list (ls.map lst)), .d (lst c)] (SV.dl ((summedM p h ls c).map .int)) (dsk p h f W s) := by
  unfold S_Desk_summed B_Desk_summed
  refine meth_of ?_
  obtain ⟨I, hI⟩ : ∃ I : Nat → Env → Prop, ∀ j e, I j e ↔ ∃ s4, free s4 = true ∧ e = [.rf (dsk p h f W s), .va (.f (.d (.list (ls.map lst)))), .va (.f (.d (lst c))), .va (SV.dl (((List.range j).map fun (k : Nat) => dot c (ls.map fun r => r.getD k 0) % p).map .int)), s4, .no, .no] := ⟨_, fun _ _ => Iff.rfl⟩
  refine md_step (e' := [.rf (dsk p h f W s), .va (.f (.d (.list (ls.map lst)))), .va (.f (.d (lst c))), .va (SV.dl []), .no, .no, .no]) (by simp) ?_
  rw [vSeq_ap, vFor_ap]
  have hit : v1 rng1 (toD (vFld "Table" "hands" (plP (plF "Desk" "table" (plN 0))))) [.rf (dsk p h f W s), .va (.f (.d (.list (ls.map lst)))), .va (.f (.d (lst c))), .va (SV.dl []), .no, .no, .no] = .ok (rngP 0 h.toNat) := by
    simp (disch := first | rfl | assumption | omega | simp [*])
  rw [hit, ofR_ok]
  refine md_wp (wp_for I ?_ ?_ ?_)
  · exact (hI _ _).mpr ⟨.no, rfl, rfl⟩
  · intro j x e hx h1
    obtain ⟨s4, h4, rfl⟩ := (hI _ _).mp h1
    obtain ⟨hj, rfl⟩ := rng_get hx
    have fl : (((List.range j).map fun (k : Nat) => dot c (ls.map fun r => r.getD k 0) % p).map PyData.int).length < 16777216 := by simp; omega
    rw [gN_ap (t := s4) rfl h4, oW_some]
    have hnext : I (j + 1) [.rf (dsk p h f W s), .va (.f (.d (.list (ls.map lst)))), .va (.f (.d (lst c))), .va (SV.dl (((List.range j).map fun (k : Nat) => dot c (ls.map fun r => r.getD k 0) % p).map .int ++ [.int (dot c (ls.map fun r => r.getD j 0) % p)])), .va (.f (.d (.int (0 + (j : Int))))), .no, .no] := (hI _ _).mpr ⟨.va (.f (.d (.int (0 + (j : Int))))), rfl, by rw [List.range_succ, List.map_append, List.map_append]; rfl⟩
    generalize hfd : ((List.range j).map fun (k : Nat) => dot c (ls.map fun r => r.getD k 0) % p).map PyData.int = fd at *
    rw [show (List.set [.rf (dsk p h f W s), .va (.f (.d (.list (ls.map lst)))), .va (.f (.d (lst c))), .va (SV.dl fd), s4, .no, .no] 4 (.va (.f (.d (.int (0 + (j : Int))))))) = [.rf (dsk p h f W s), .va (.f (.d (.list (ls.map lst)))), .va (.f (.d (lst c))), .va (SV.dl fd), .va (.f (.d (.int (0 + (j : Int))))), .no, .no] from rfl]
    have ecomp : vComp (vItZip (vVarD 2) (vVarD 1)) (gT 2 (gsC (gN 5) (gsC (gN 6) gsN))) vYes (v2 mulV (vVarD 5) (toD (v2 ixP (vVarD 6) (vVarD 4)))) [5, 6] [.rf (dsk p h f W s), .va (.f (.d (.list (ls.map lst)))), .va (.f (.d (lst c))), .va (SV.dl fd), .va (.f (.d (.int (0 + (j : Int))))), .no, .no]
        = .ok (SV.dl (((c.zip ls).map fun x => x.1 * x.2.getD j 0).map .int)) := by
      rw [comp_lstT (c.zip ls) (fun x => .tuple [.int x.1, lst x.2]) (fun _ => true) (fun x => .f (.d (.int (x.1 * x.2.getD j 0))))]
      · rw [List.filter_eq_self.mpr (fun _ _ => rfl), map_dl, List.map_map]
        rfl
      · have z := zip_rows c ls
        unfold lst at z ⊢
        simp [z]
      · rw [List.length_zip]; omega
      · intro x hx
        have mc := List.of_mem_zip (a := x.1) (b := x.2) hx
        have rx := rc x.1 mc.1
        have lx := rl x.2 mc.2
        have ha := getD_at (xs := x.2) (a := (0 + (j : Int))) (by omega) (by omega)
        have hix : ixP (lst x.2) (.int (0 + (j : Int))) = .ok (.d (.int (x.2.getD j 0))) := by
          unfold lst
          rw [ixP_l, ha, show (0 + (j : Int)).toNat = j by omega]
          rfl
        refine ⟨[.rf (dsk p h f W s), .va (.f (.d (.list (ls.map lst)))), .va (.f (.d (lst c))), .va (SV.dl fd), .va (.f (.d (.int (0 + (j : Int))))), .va (.f (.d (.int x.1))), .va (.f (.d (lst x.2)))], by simp, rfl, fun _ => ?_⟩
        rw [v2_ap, toD_ap, v2_ap]
        simp only [vVarD_ap, nth_0, nth_s, ldD_va, ldS_f, bind_ok, hix, dOf_d]
        rw [mulV_i, cIf_pos (.inl (by omega))]
    have esum := sumP_ints ((c.zip ls).map fun x => x.1 * x.2.getD j 0)
    rw [dot_zip] at esum
    have eelt : (v2 modI (toD (v1 sumP (frD (vComp (vItZip (vVarD 2) (vVarD 1)) (gT 2 (gsC (gN 5) (gsC (gN 6) gsN))) vYes (v2 mulV (vVarD 5) (toD (v2 ixP (vVarD 6) (vVarD 4)))) [5, 6])))) (toD (vFld "Table" "prime" (plP (plF "Desk" "table" (plN 0)))))) [.rf (dsk p h f W s), .va (.f (.d (.list (ls.map lst)))), .va (.f (.d (lst c))), .va (SV.dl fd), .va (.f (.d (.int (0 + (j : Int))))), .no, .no] = .ok (.d (.int (dot c (ls.map fun r => r.getD j 0) % p))) := by
      rw [v2_ap, toD_ap, v1_ap, frD_ap, ecomp, bind_ok, frF_dl, bind_ok, dOf_d, bind_ok, esum]
      simp (disch := first | rfl | assumption | omega | simp [*])
    have ep : (plN 3 [.rf (dsk p h f W s), .va (.f (.d (.list (ls.map lst)))), .va (.f (.d (lst c))), .va (SV.dl fd), .va (.f (.d (.int (0 + (j : Int))))), .no, .no]).bind lstP = .ok (3, [], SV.dl fd) := by simp
    have hap := app_dl (e := [.rf (dsk p h f W s), .va (.f (.d (.list (ls.map lst)))), .va (.f (.d (lst c))), .va (SV.dl fd), .va (.f (.d (.int (0 + (j : Int))))), .no, .no]) (i := 3) (p := .int (dot c (ls.map fun r => r.getD j 0) % p)) rfl fl
    rw [vEx_ap, vApp_ap, ep, oR_ok, unO_ap, eelt, bind_ok, oR_ok, hap, ofO_ok]
    exact hnext
  · intro e h1
    obtain ⟨s4, h4, rfl⟩ := (hI _ _).mp h1
    rw [rngP_length, vRetV_va (s := SV.dl ((summedM p h ls c).map .int)) 3 _ rfl]
    exact md_rt _ _ _
def joinM (p : Int) (o : Op) (x y : Int) : Int := match o with
  | .sum _ _ => (x + y) % p
  | .less _ _ => (x - y) % p
  | _ => x * y % p
def localM (p : Int) (o : Op) (A B : List Int) : List Int := (A.zip B).map fun x => joinM p o x.1 x.2
def Op.two : Op → Option (Int × Int)
  | .sum a b => some (a, b)
  | .less a b => some (a, b)
  | .mul a b => some (a, b)
  | _ => none
theorem runV_local (p h f : Int) (W : List Int) (s : DS) (o : Op) (a b : Int) (ho : o.two = some (a, b)) (hp : 0 < p ∧ p < 1000) (ha : 0 ≤ a ∧ a < s.shares.length) (hb : 0 ≤ b ∧ b < s.shares.length) (hr : ∀ r ∈ s.shares, Rng p r ∧ r.length < 1000) :
    runV S_Desk_local (dsk p h f W s) [.d o.D] = .ok (SV.dl ((localM p o (s.shares.getD a.toNat []) (s.shares.getD b.toNat [])).map .int)) := by
  unfold S_Desk_local B_Desk_local
  rw [runV_mk]
  have al : a.toNat < s.shares.length := by omega
  have bl : b.toNat < s.shares.length := by omega
  have eA : s.shares[a.toNat]? = some (s.shares.getD a.toNat []) := by simp only [List.getD, List.getElem?_eq_getElem al, Option.getD_some]
  have eB : s.shares[b.toNat]? = some (s.shares.getD b.toNat []) := by simp only [List.getD, List.getElem?_eq_getElem bl, Option.getD_some]
  have rA := hr _ (List.mem_of_getElem? eA)
  have rB := hr _ (List.mem_of_getElem? eB)
  generalize s.shares.getD a.toNat [] = A at *
  generalize s.shares.getD b.toNat [] = B at *
  have hA : atI (s.shares.map lst) a = some (lst A) := by rw [atI_pos ha.1, List.getElem?_map, eA]; rfl
  have hB : atI (s.shares.map lst) b = some (lst B) := by rw [atI_pos hb.1, List.getElem?_map, eB]; rfl
  have pA := plS_dl 0 [.fld "Desk" "shares"] (s.shares.map lst) a _ hA
  have pB := plS_dl 0 [.fld "Desk" "shares"] (s.shares.map lst) b _ hB
  have o1 : ixP o.D (.int 1) = .ok (.d (.int a)) := by cases o <;> cases ho <;> rfl
  have o2 : ixP o.D (.int 2) = .ok (.d (.int b)) := by cases o <;> cases ho <;> rfl
  have oj : (∃ a b, o = .sum a b) ∨ (∃ a b, o = .less a b) ∨ (∃ a b, o = .mul a b) := by
    cases o <;> cases ho
    · exact .inl ⟨_, _, rfl⟩
    · exact .inr (.inl ⟨_, _, rfl⟩)
    · exact .inr (.inr ⟨_, _, rfl⟩)
  have e1 : vSet 2 (plP (plX (plF "Desk" "shares" (plN 0)) (toD (v2 ixP (vVarD 1) (toD (vC (.int 1))))))) (.vw (dsk p h f W s) :: ([FV.d o.D].map vaF ++ List.replicate 4 .no)) = .nx [.vw (dsk p h f W s), .va (.f (.d o.D)), .va (.f (.d (lst A))), .no, .no, .no] := by
    simp (disch := first | rfl | assumption | omega | simp [*]) [o1, pA]
  rw [vSeq_ap, e1, andThen_nx]
  have e2 : vSet 3 (plP (plX (plF "Desk" "shares" (plN 0)) (toD (v2 ixP (vVarD 1) (toD (vC (.int 2))))))) [.vw (dsk p h f W s), .va (.f (.d o.D)), .va (.f (.d (lst A))), .no, .no, .no] = .nx [.vw (dsk p h f W s), .va (.f (.d o.D)), .va (.f (.d (lst A))), .va (.f (.d (lst B))), .no, .no] := by
    simp (disch := first | rfl | assumption | omega | simp [*]) [o2, pB]
  rw [vSeq_ap, e2, andThen_nx, vRet_ap, finO_ret]
  rw [comp_lstT (A.zip B) (fun x => .tuple [.int x.1, .int x.2]) (fun _ => true) (fun x => .f (.d (.int (joinM p o x.1 x.2))))]
  · rw [List.filter_eq_self.mpr (fun _ _ => rfl), map_dl]
    unfold localM
    rw [List.map_map]
    rfl
  · have z := zip_ints A B
    unfold lst
    simp [z]
  · rw [List.length_zip]; omega
  · intro x hx
    have mc := List.of_mem_zip (a := x.1) (b := x.2) hx
    have rx := rA.1 x.1 mc.1
    refine ⟨[.vw (dsk p h f W s), .va (.f (.d o.D)), .va (.f (.d (lst A))), .va (.f (.d (lst B))), .va (.f (.d (.int x.1))), .va (.f (.d (.int x.2)))], by simp, rfl, fun _ => ?_⟩
    have hj := runO_flat rfl (run_joined p h f x.1 x.2 o hp.1 (by omega) oj)
    rw [vCall_raw]
    simp (disch := first | rfl | assumption | omega | simp [*]) [hj]
    cases o <;> rfl
end VL

set_option Elab.async false
set_option linter.all false
set_option maxRecDepth 100000
set_option maxHeartbeats 4000000
namespace VL
open PySem PySem.Spec PyProof.Rows L2

def dealsS (p h f : Int) : DS → List Int → Nat → DS
  | s, [], _ => s
  | s, x :: xs, k => dealsS p h f (dealS p h f ((k : Int) + 1) x s) xs (k + 1)
def dealsL (p h f : Int) : List Int → List Int → List (List Int)
  | _, [] => []
  | ch, x :: xs => dealtM p h x (ch.take f.toNat) :: dealsL p h f (ch.drop f.toNat) xs
theorem sentM_len (n h hand : Int) (nums : List Int) : (sentM n h hand nums).length ≤ h.toNat := sentI_len _ _ _ _
def mE (p h f : Int) (W : List Int) (od : PyData) (s : DS) : Env := [.rf (dsk p h f W s), .va (.f (.d od)), .va (.f (.d (.int h))), .no, .no, .no, .no, .no]
theorem comp_deals (p h f : Int) (W : List Int) (od : PyData) (hp : 0 < p ∧ p < 1000) (hh : 0 ≤ h ∧ h ≤ 7) (hf : 0 ≤ f ∧ f ≤ 2) : ∀ (nums : List Int) (k : Nat) (s : DS), s.letters.length + 7 * nums.length < 16000000 →
    compLE (gT 2 (gsC (gN 6) (gsC (gN 7) gsN))) (vMethX "Desk" "deal" S_Desk_deal 0 (xP (pF (frO (v2 addV (vVarD 6) (toD (vC (.int 1))))) (pF (vVar 7) pN)))) [6, 7] (enumP k (nums.map .int)) (mE p h f W od s)
      = .ok ((dealsL p h f s.chance nums).map fun r => .f (.d (lst r))) (mE p h f W od (dealsS p h f s nums k))
  | [], k, s, _ => rfl
  | x :: xs, k, s, hl => by
    have lx : s.letters.length < 16000000 := by omega
    have md := meth_deal p h f ((k : Int) + 1) x W s hp hh hf lx
    have sl := sentM_len s.shares.length h ((k : Int) + 1) (dealtM p h x (s.chance.take f.toNat))
    have ih := comp_deals p h f W od hp hh hf xs (k + 1) (dealS p h f ((k : Int) + 1) x s) (by
      show (s.letters ++ sentM s.shares.length h ((k : Int) + 1) (dealtM p h x (s.chance.take f.toNat))).length + _ < _
      rw [List.length_append]
      simp at hl
      omega)
    show compLE _ _ [6, 7] (.tuple [.int (k : Int), .int x] :: enumP (k + 1) (xs.map .int)) (mE p h f W od s) = _
    have hg : (gT 2 (gsC (gN 6) (gsC (gN 7) gsN))) (.tuple [.int (k : Int), .int x]) (mE p h f W od s) = some [.rf (dsk p h f W s), .va (.f (.d od)), .va (.f (.d (.int h))), .no, .no, .no, .va (.f (.d (.int (k : Int)))), .va (.f (.d (.int x)))] := by
      unfold mE
      simp
    have he : vMethX "Desk" "deal" S_Desk_deal 0 (xP (pF (frO (v2 addV (vVarD 6) (toD (vC (.int 1))))) (pF (vVar 7) pN))) [.rf (dsk p h f W s), .va (.f (.d od)), .va (.f (.d (.int h))), .no, .no, .no, .va (.f (.d (.int (k : Int)))), .va (.f (.d (.int x)))]
        = .ok (.f (.d (lst (dealtM p h x (s.chance.take f.toNat))))) [.rf (dsk p h f W (dealS p h f ((k : Int) + 1) x s)), .va (.f (.d od)), .va (.f (.d (.int h))), .no, .no, .no, .va (.f (.d (.int (k : Int)))), .va (.f (.d (.int x)))] := by
      rw [methX_rf (xs := [.d (.int ((k : Int) + 1)), .d (.int x)]) (by simp) rfl (by simp; rfl) rfl md]
      rfl
    show (match (gT 2 (gsC (gN 6) (gsC (gN 7) gsN))) (.tuple [.int (k : Int), .int x]) (mE p h f W od s) with
      | none => Out.bad
      | some e1 => (noO (vMethX "Desk" "deal" S_Desk_deal 0 (xP (pF (frO (v2 addV (vVarD 6) (toD (vC (.int 1))))) (pF (vVar 7) pN))) e1)).bind fun y e2 => (compLE _ _ [6, 7] (enumP (k + 1) (xs.map .int)) (wipeD e2 [6, 7])).bind fun ys e3 => .ok (y :: ys) e3) = _
    rw [hg]
    dsimp only
    rw [he]
    show (compLE _ _ [6, 7] (enumP (k + 1) (xs.map .int)) (mE p h f W od (dealS p h f ((k : Int) + 1) x s))).bind (fun ys e3 => Out.ok (SV.f (.d (lst (dealtM p h x (s.chance.take f.toNat)))) :: ys) e3) = _
    rw [ih]
    rfl
theorem rngP_succ (lo : Int) (n : Nat) : rngP lo (n + 1) = .int lo :: rngP (lo + 1) n := by
  unfold rngP
  rw [List.range_succ_eq_map, List.map_cons, List.map_map]
  congr 1
  · simp
  · refine List.map_congr_left fun k _ => ?_
    show PyData.int (lo + ((k + 1 : Nat) : Int)) = .int (lo + 1 + (k : Int))
    congr 1
    omega
theorem comp_anew (p h f : Int) (W : List Int) (od : PyData) (hp : 0 < p ∧ p < 1000) (hh : 0 ≤ h ∧ h ≤ 7) (hf : 0 ≤ f ∧ f ≤ 2) : ∀ (n : Nat) (k : Nat) (s : DS), s.letters.length + 7 * n < 16000000 →
    compLE (gN 6) (vMethX "Desk" "deal" S_Desk_deal 0 (xP (pF (frO (v2 addV (vVarD 6) (toD (vC (.int 1))))) (pF (vC (.int 0)) pN)))) [6] (rngP (k : Int) n) (mE p h f W od s)
      = .ok ((dealsL p h f s.chance (List.replicate n 0)).map fun r => .f (.d (lst r))) (mE p h f W od (dealsS p h f s (List.replicate n 0) k))
  | 0, k, s, _ => rfl
  | n + 1, k, s, hl => by
    have lx : s.letters.length < 16000000 := by omega
    have md := meth_deal p h f ((k : Int) + 1) 0 W s hp hh hf lx
    have sl := sentM_len s.shares.length h ((k : Int) + 1) (dealtM p h 0 (s.chance.take f.toNat))
    have ih := comp_anew p h f W od hp hh hf n (k + 1) (dealS p h f ((k : Int) + 1) 0 s) (by
      show (s.letters ++ sentM s.shares.length h ((k : Int) + 1) (dealtM p h 0 (s.chance.take f.toNat))).length + _ < _
      rw [List.length_append]
      omega)
    rw [rngP_succ]
    have hg : (gN 6) (.int (k : Int)) (mE p h f W od s) = some [.rf (dsk p h f W s), .va (.f (.d od)), .va (.f (.d (.int h))), .no, .no, .no, .va (.f (.d (.int (k : Int)))), .no] := by
      unfold mE
      simp
    have he : vMethX "Desk" "deal" S_Desk_deal 0 (xP (pF (frO (v2 addV (vVarD 6) (toD (vC (.int 1))))) (pF (vC (.int 0)) pN))) [.rf (dsk p h f W s), .va (.f (.d od)), .va (.f (.d (.int h))), .no, .no, .no, .va (.f (.d (.int (k : Int)))), .no]
        = .ok (.f (.d (lst (dealtM p h 0 (s.chance.take f.toNat))))) [.rf (dsk p h f W (dealS p h f ((k : Int) + 1) 0 s)), .va (.f (.d od)), .va (.f (.d (.int h))), .no, .no, .no, .va (.f (.d (.int (k : Int)))), .no] := by
      rw [methX_rf (xs := [.d (.int ((k : Int) + 1)), .d (.int 0)]) (by simp) rfl (by simp; rfl) rfl md]
      rfl
    show (match (gN 6) (.int (k : Int)) (mE p h f W od s) with
      | none => Out.bad
      | some e1 => (noO (vMethX "Desk" "deal" S_Desk_deal 0 (xP (pF (frO (v2 addV (vVarD 6) (toD (vC (.int 1))))) (pF (vC (.int 0)) pN))) e1)).bind fun y e2 => (compLE _ _ [6] (rngP ((k : Int) + 1) n) (wipeD e2 [6])).bind fun ys e3 => .ok (y :: ys) e3) = _
    rw [hg]
    dsimp only
    rw [he]
    show (compLE _ _ [6] (rngP ((k : Int) + 1) n) (mE p h f W od (dealS p h f ((k : Int) + 1) 0 s))).bind (fun ys e3 => Out.ok (SV.f (.d (lst (dealtM p h 0 (s.chance.take f.toNat)))) :: ys) e3) = _
    rw [show ((k : Int) + 1) = ((k + 1 : Nat) : Int) by omega] at *
    rw [ih]
    rfl
theorem frE_ok {fe : FE} {e e1 : Env} {s : SV} {x : FV} (h : fe e = .ok s e1) (hf : frF s = .ok x) : frE fe e = .ok (.f x) e1 := by
  unfold frE
  rw [h, obind_ok]
  unfold frF at hf
  cases z : s.frz? with
  | none => rw [z] at hf; cases hf
  | some y => rw [z] at hf; cases hf; rfl
theorem rows_leaf (ls : List (List Int)) : SV.own (ls.map fun r => SV.f (.d (lst r))) = SV.dl (ls.map lst) := map_dl ls lst
def opensI (n h : Int) (A : List Int) (j : Nat) : List PyData := (List.range j).flatMap fun (k : Nat) => sentM n h (1 + (k : Int)) (List.replicate h.toNat (A.getD k 0))
def madeR (p h f : Int) (W : List Int) (s : DS) : Op → List Int
  | .inn hd => dealtM p h ((s.left.getD (hd - 1).toNat []).getD 0 0) (s.chance.take f.toNat)
  | .fix n => List.replicate h.toNat n
  | .byy a n => (s.shares.getD a.toNat []).map fun x => x * n % p
  | .sum a b => localM p (.sum a b) (s.shares.getD a.toNat []) (s.shares.getD b.toNat [])
  | .less a b => localM p (.less a b) (s.shares.getD a.toNat []) (s.shares.getD b.toNat [])
  | .mul a b => summedM p h (dealsL p h f s.chance (localM p (.mul a b) (s.shares.getD a.toNat []) (s.shares.getD b.toNat []))) W
  | .anew a => summedM p h (s.shares.getD a.toNat [] :: dealsL p h f s.chance (List.replicate h.toNat 0)) (List.replicate (h + 1).toNat 1)
  | .opn a => s.shares.getD a.toNat []
def madeS (p h f : Int) (s : DS) : Op → DS
  | .inn hd => dealS p h f hd ((s.left.getD (hd - 1).toNat []).getD 0 0) { s with left := s.left.set (hd - 1).toNat (s.left.getD (hd - 1).toNat []).tail }
  | .mul a b => dealsS p h f s (localM p (.mul a b) (s.shares.getD a.toNat []) (s.shares.getD b.toNat [])) 0
  | .anew _ => dealsS p h f s (List.replicate h.toNat 0) 0
  | .opn a => { s with letters := s.letters ++ opensI s.shares.length h (s.shares.getD a.toNat []) h.toNat }
  | _ => s
structure DOk (p h f : Int) (W : List Int) (s : DS) : Prop where
  row : ∀ r ∈ s.shares, Rng p r ∧ (r.length : Int) = h
  lt : s.letters.length < 10000000
  wl : (W.length : Int) = h
  wr : Rng p W
section
variable {p h f : Int} {W : List Int} {s : DS}
theorem share_at (d : DOk p h f W s) {a : Int} (ha : 0 ≤ a ∧ a < s.shares.length) : s.shares[a.toNat]? = some (s.shares.getD a.toNat []) ∧ Rng p (s.shares.getD a.toNat []) ∧ ((s.shares.getD a.toNat []).length : Int) = h := by
  have al : a.toNat < s.shares.length := by omega
  have e : s.shares[a.toNat]? = some (s.shares.getD a.toNat []) := by simp only [List.getD, List.getElem?_eq_getElem al, Option.getD_some]
  exact ⟨e, (d.row _ (List.mem_of_getElem? e)).1, (d.row _ (List.mem_of_getElem? e)).2⟩
theorem made_0 (od : PyData) : vSet 2 (vFld "Table" "hands" (plP (plF "Desk" "table" (plN 0)))) (.rf (dsk p h f W s) :: ([FV.d od].map vaF ++ List.replicate 6 .no)) = .nx (mE p h f W od s) := by
  unfold mE
  simp
end
end VL

set_option Elab.async false
set_option linter.all false
set_option maxRecDepth 100000
set_option maxHeartbeats 4000000
namespace VL
open PySem PySem.Spec PyProof.Rows L2

def Op.word : Op → Str
  | .inn _ => "in"
  | .fix _ => "fix"
  | .byy _ _ => "by"
  | .sum _ _ => "sum"
  | .less _ _ => "less"
  | .mul _ _ => "mul"
  | .anew _ => "anew"
  | .opn _ => "open"
section
variable {p h f : Int} {W : List Int} {s : DS}
theorem word_at (o : Op) : ixP o.D (.int 0) = .ok (.d (.str o.word)) := by cases o <;> rfl
theorem word_ok (o : Op) : PyData.strOk o.word = true := by cases o <;> simp [Op.word]
theorem made_word (o : Op) (w : Str) (hw : PyData.strOk w = true) : (toT (vCmp .eq (toD (v2 ixP (vVarD 1) (toD (vC (.int 0))))) (toD (vC (.str w))))) (mE p h f W o.D s) = .ok (decide (o.word = w)) := by
  have h1 := word_at o
  have h2 := cop_eq_s o.word w (word_ok o) hw
  unfold mE
  simp [h1, h2]
theorem md_ret {fl : Flow} {k : ST} {r t' : SV} {e : Env} (h : fl = .rt r (.rf t' :: e)) : (fl.andThen k).md r t' := by
  rw [h]; exact md_rt _ _ _
theorem md_no {t : FT} {A k : ST} {e : Env} {r t' : SV} (ht : t e = .ok false) (q : (k e).md r t') : (vSeq (vIfS t A vSkip) k e).md r t' := by
  rw [vSeq_ap, vIfS_ap, ht, ofR_ok, if_neg (by simp), vSkip_ap, andThen_nx]
  exact q
theorem md_yes {t : FT} {A k : ST} {e e' : Env} {r t' : SV} (ht : t e = .ok true) (q : A e = .rt r (.rf t' :: e')) : (vSeq (vIfS t A vSkip) k e).md r t' := by
  rw [vSeq_ap, vIfS_ap, ht, ofR_ok, if_pos rfl]
  exact md_ret q
theorem rep_flat (n : Nat) (x : Int) : (List.replicate n [PyData.int x]).flatten = (List.replicate n x).map .int := by
  rw [List.map_replicate]
  induction n with
  | zero => rfl
  | succ n ih => rw [List.replicate_succ, List.flatten_cons, ih, List.replicate_succ]; rfl
theorem made_inn (hd : Int) (hp : 0 < p ∧ p < 1000) (hh : 0 ≤ h ∧ h ≤ 7) (hf : 0 ≤ f ∧ f ≤ 2) (d : DOk p h f W s) (h1 : 1 ≤ hd) {c : Int} {q : List Int} (hl : s.left[(hd - 1).toNat]? = some (c :: q)) :
    Meth' S_Desk_made (dsk p h f W s) [.d (Op.inn hd).D] (.f (.d (lst (madeR p h f W s (.inn hd))))) (dsk p h f W (madeS p h f s (.inn hd))) := by
  have e1 : s.left.getD (hd - 1).toNat [] = c :: q := by simp only [List.getD, hl, Option.getD_some]
  have eR : madeR p h f W s (.inn hd) = dealtM p h c (s.chance.take f.toNat) := by
    show dealtM p h ((s.left.getD (hd - 1).toNat []).getD 0 0) _ = _
    rw [e1]; rfl
  have eS : madeS p h f s (.inn hd) = dealS p h f hd c { s with left := s.left.set (hd - 1).toNat q } := by
    show dealS p h f hd ((s.left.getD (hd - 1).toNat []).getD 0 0) { s with left := s.left.set (hd - 1).toNat (s.left.getD (hd - 1).toNat []).tail } = _
    rw [e1]; rfl
  rw [eR, eS]
  unfold S_Desk_made B_Desk_made
  refine meth_of (md_step (made_0 _) ?_)
  have ht := made_word (p := p) (h := h) (f := f) (W := W) (s := s) (.inn hd) "in" (by simp)
  have md := meth_deal p h f hd c W { s with left := s.left.set (hd - 1).toNat q } hp hh hf (by have := d.lt; show s.letters.length < _; omega)
  have ha : atI (rowsD s.left) (hd - 1) = some ((c :: q).map .int) := by
    rw [atI_pos (by omega)]; unfold rowsD; rw [List.getElem?_map, hl]; rfl
  have hps := plS_dll 0 [.fld "Desk" "left"] (rowsD s.left) (hd - 1) _ ha
  refine md_yes (e' := [.va (.f (.d (Op.inn hd).D)), .va (.f (.d (.int h))), .no, .no, .no, .no, .no]) (by rw [ht]; rfl) ?_
  have hpop := pop_left (p := p) (h := h) (f := f) (W := W) (s := s) (e := mE p h f W (Op.inn hd).D s) (i := 0) (k := hd - 1) (y := c) (q := q) rfl (by omega) hl
  have i1 : ixP (Op.inn hd).D (.int 1) = .ok (.d (.int hd)) := rfl
  have hfs : (xF (v2 ixP (vVarD 1) (toD (vC (.int 1)))) (xE (vPop0 (plX (plF "Desk" "left" (plN 0)) (toD (v2 subI (toD (v2 ixP (vVarD 1) (toD (vC (.int 1))))) (toD (vC (.int 1))))))) (xP pN))) (mE p h f W (Op.inn hd).D s)
      = .ok ([FV.d (.int hd), .d (.int c)].map .fz) (mE p h f W (Op.inn hd).D { s with left := s.left.set (hd - 1).toNat q }) := by
    have hpl : (plX (plF "Desk" "left" (plN 0)) (toD (v2 subI (toD (v2 ixP (vVarD 1) (toD (vC (.int 1))))) (toD (vC (.int 1)))))) (mE p h f W (Op.inn hd).D s) = .ok (0, [.fld "Desk" "left", .ix (hd - 1)], SV.dl ((c :: q).map .int)) := by
      unfold mE
      simp [i1, hps]
    rw [xF_ap, xE_ap, vPop0_ap, hpl]
    rw [show (v2 ixP (vVarD 1) (toD (vC (.int 1)))) (mE p h f W (Op.inn hd).D s) = .ok (.d (.int hd)) from by unfold mE; simp [i1]]
    rw [oR_ok, bind_ok, show lstP (0, [Pst.fld "Desk" "left", Pst.ix (hd - 1)], SV.dl ((c :: q).map .int)) = .ok (0, [.fld "Desk" "left", .ix (hd - 1)], SV.dl ((c :: q).map .int)) from rfl, oR_ok, hpop]
    rfl
  rw [vRetE_ap, methX_rf (xs := [.d (.int hd), .d (.int c)]) (by simp) rfl hfs rfl md]
  rfl
theorem made_fix (n : Int) (hh : 0 ≤ h ∧ h ≤ 7) : Meth' S_Desk_made (dsk p h f W s) [.d (Op.fix n).D] (SV.dl ((madeR p h f W s (.fix n)).map .int)) (dsk p h f W (madeS p h f s (.fix n))) := by
  unfold S_Desk_made B_Desk_made
  refine meth_of (md_step (made_0 _) ?_)
  have ht := fun w hw => made_word (p := p) (h := h) (f := f) (W := W) (s := s) (.fix n) w hw
  refine md_no (by rw [ht _ (by simp)]; simp [Op.word]) ?_
  refine md_yes (e' := [.va (.f (.d (Op.fix n).D)), .va (.f (.d (.int h))), .no, .no, .no, .no, .no]) (by rw [ht _ (by simp)]; rfl) ?_
  have i1 : ixP (Op.fix n).D (.int 1) = .ok (.d (.int n)) := rfl
  have rf := rep_flat h.toNat n
  unfold mE
  show _ = Flow.rt (SV.dl ((List.replicate h.toNat n).map .int)) _
  rw [← rf]
  simp (disch := first | rfl | assumption | omega | simp [*]) [i1]
  rfl
theorem made_byy (a n : Int) (hp : 0 < p ∧ p < 1000) (hh : 0 ≤ h ∧ h ≤ 7) (d : DOk p h f W s) (ha : 0 ≤ a ∧ a < s.shares.length) : Meth' S_Desk_made (dsk p h f W s) [.d (Op.byy a n).D] (SV.dl ((madeR p h f W s (.byy a n)).map .int)) (dsk p h f W (madeS p h f s (.byy a n))) := by
  unfold S_Desk_made B_Desk_made
  refine meth_of (md_step (made_0 _) ?_)
  have ht := fun w hw => made_word (p := p) (h := h) (f := f) (W := W) (s := s) (.byy a n) w hw
  refine md_no (by rw [ht _ (by simp)]; simp [Op.word]) ?_
  refine md_no (by rw [ht _ (by simp)]; simp [Op.word]) ?_
  refine md_yes (e' := [.va (.f (.d (Op.byy a n).D)), .va (.f (.d (.int h))), .no, .no, .no, .no, .no]) (by rw [ht _ (by simp)]; rfl) ?_
  obtain ⟨eA, rA, lA⟩ := share_at d ha
  have i1 : ixP (Op.byy a n).D (.int 1) = .ok (.d (.int a)) := rfl
  have i2 : ixP (Op.byy a n).D (.int 2) = .ok (.d (.int n)) := rfl
  show _ = Flow.rt (SV.dl (((s.shares.getD a.toNat []).map fun x => x * n % p).map .int)) _
  generalize s.shares.getD a.toNat [] = A at *
  have hA : atI (s.shares.map lst) a = some (lst A) := by rw [atI_pos ha.1, List.getElem?_map, eA]; rfl
  have pA := plS_dl 0 [.fld "Desk" "shares"] (s.shares.map lst) a _ hA
  rw [vRet_ap, comp_lstT A .int (fun _ => true) (fun x => .f (.d (.int (x * n % p))))]
  · rw [List.filter_eq_self.mpr (fun _ _ => rfl), map_dl, List.map_map]
    rfl
  · unfold mE
    simp (disch := first | rfl | assumption | omega | simp [*]) [i1, pA]
    rfl
  · omega
  · intro x mx
    have rx := rA x mx
    refine ⟨[.rf (dsk p h f W s), .va (.f (.d (Op.byy a n).D)), .va (.f (.d (.int h))), .no, .no, .va (.f (.d (.int x))), .no, .no], by unfold mE; simp, rfl, fun _ => ?_⟩
    simp (disch := first | rfl | assumption | omega | simp [*]) [i2]
theorem made_two (o : Op) (a b : Int) (ho : o.two = some (a, b)) (hm : o.word = "sum" ∨ o.word = "less") (hp : 0 < p ∧ p < 1000) (hh : 0 ≤ h ∧ h ≤ 7) (d : DOk p h f W s) (ha : 0 ≤ a ∧ a < s.shares.length) (hb : 0 ≤ b ∧ b < s.shares.length) :
    Meth' S_Desk_made (dsk p h f W s) [.d o.D] (SV.dl ((madeR p h f W s o).map .int)) (dsk p h f W (madeS p h f s o)) := by
  unfold S_Desk_made B_Desk_made
  refine meth_of (md_step (made_0 _) ?_)
  have ht := fun w hw => made_word (p := p) (h := h) (f := f) (W := W) (s := s) o w hw
  have hne : ∀ w : Str, w ≠ "sum" → w ≠ "less" → decide (o.word = w) = false := fun w h1 h2 => by
    rcases hm with e | e <;> rw [e, decide_eq_false_iff_not] <;> intro z
    · exact h1 z.symm
    · exact h2 z.symm
  refine md_no (by rw [ht _ (by simp), hne _ (by simp) (by simp)]) ?_
  refine md_no (by rw [ht _ (by simp), hne _ (by simp) (by simp)]) ?_
  refine md_no (by rw [ht _ (by simp), hne _ (by simp) (by simp)]) ?_
  refine md_no (by rw [ht _ (by simp), hne _ (by simp) (by simp)]) ?_
  refine md_no (by rw [ht _ (by simp), hne _ (by simp) (by simp)]) ?_
  refine md_no (by rw [ht _ (by simp), hne _ (by simp) (by simp)]) ?_
  have hr := runV_local p h f W s o a b ho hp ha hb (fun r m => ⟨(d.row r m).1, by have := (d.row r m).2; omega⟩)
  have eR : madeR p h f W s o = localM p o (s.shares.getD a.toNat []) (s.shares.getD b.toNat []) := by
    cases o <;> cases ho <;> first | rfl | (exfalso; rcases hm with e | e <;> simp [Op.word] at e)
  have eS : madeS p h f s o = s := by
    cases o <;> cases ho <;> first | rfl | (exfalso; rcases hm with e | e <;> simp [Op.word] at e)
  rw [eR, eS, vRet_ap, methP_any (xs := [.d o.D]) (p := p) (h := h) (f := f) (W := W) (s := s) (by simp) (by unfold mE; simp) (by unfold mE; simp), hr, ofR_ok]
  exact md_rt _ _ _
end
end VL

set_option Elab.async false
set_option linter.all false
set_option maxRecDepth 100000
set_option maxHeartbeats 4000000
namespace VL
open PySem PySem.Spec PyProof.Rows L2

theorem wp_ex {fl : Flow} {P : Env → Prop} (h : fl.wp P) : ∃ e, fl = .nx e ∧ P e := by
  cases fl with
  | nx e => exact ⟨e, rfl, h⟩
  | _ => exact h.elim
theorem dealsL_row (p h f : Int) : ∀ (nums ch : List Int), ∀ r ∈ dealsL p h f ch nums, r.length = h.toNat
  | [], _, r, m => by cases m
  | x :: xs, ch, r, m => by
    rcases List.mem_cons.mp m with e | m
    · rw [e, dealtM_length]
    · exact dealsL_row p h f xs _ r m
theorem dealsL_length (p h f : Int) : ∀ (nums ch : List Int), (dealsL p h f ch nums).length = nums.length
  | [], _ => rfl
  | x :: xs, ch => by
    show (dealsL p h f (ch.drop f.toNat) xs).length + 1 = _
    rw [dealsL_length p h f xs]; rfl
theorem dealsS_shares (p h f : Int) : ∀ (nums : List Int) (k : Nat) (s : DS), (dealsS p h f s nums k).shares = s.shares ∧ (dealsS p h f s nums k).left = s.left ∧ (dealsS p h f s nums k).chance = s.chance.drop (f.toNat * nums.length) ∧ (dealsS p h f s nums k).letters.length ≤ s.letters.length + h.toNat * nums.length
  | [], k, s => ⟨rfl, rfl, by show s.chance = s.chance.drop (f.toNat * 0); simp, by show s.letters.length ≤ _; omega⟩
  | x :: xs, k, s => by
    obtain ⟨a, b, c, d⟩ := dealsS_shares p h f xs (k + 1) (dealS p h f ((k : Int) + 1) x s)
    refine ⟨a, b, ?_, ?_⟩
    · show (dealsS p h f (dealS p h f ((k : Int) + 1) x s) xs (k + 1)).chance = _
      rw [c]
      show (s.chance.drop f.toNat).drop _ = _
      rw [List.drop_drop]
      congr 1
      rw [List.length_cons, Nat.mul_add, Nat.mul_one, Nat.add_comm]
    · have sl := sentM_len s.shares.length h ((k : Int) + 1) (dealtM p h x (s.chance.take f.toNat))
      have e : (dealS p h f ((k : Int) + 1) x s).letters.length = s.letters.length + (sentM s.shares.length h ((k : Int) + 1) (dealtM p h x (s.chance.take f.toNat))).length := by
        show (s.letters ++ sentM s.shares.length h ((k : Int) + 1) (dealtM p h x (s.chance.take f.toNat))).length = _
        rw [List.length_append]
      rw [e] at d
      rw [List.length_cons, Nat.mul_add, Nat.mul_one]
      show (dealsS p h f (dealS p h f ((k : Int) + 1) x s) xs (k + 1)).letters.length ≤ _
      omega
theorem localM_length (p : Int) (o : Op) (A B : List Int) : (localM p o A B).length = min A.length B.length := by unfold localM; simp
section
variable {p h f : Int} {W : List Int} {s : DS}
theorem made_opn (a : Int) (hp : 0 < p ∧ p < 1000) (hh : 0 ≤ h ∧ h ≤ 7) (d : DOk p h f W s) (ha : 0 ≤ a ∧ a < s.shares.length) : Meth' S_Desk_made (dsk p h f W s) [.d (Op.opn a).D] (SV.dl ((madeR p h f W s (.opn a)).map .int)) (dsk p h f W (madeS p h f s (.opn a))) := by
  unfold S_Desk_made B_Desk_made
  refine meth_of (md_step (made_0 _) ?_)
  have ht := fun w hw => made_word (p := p) (h := h) (f := f) (W := W) (s := s) (.opn a) w hw
  refine md_no (by rw [ht _ (by simp)]; simp [Op.word]) ?_
  refine md_no (by rw [ht _ (by simp)]; simp [Op.word]) ?_
  refine md_no (by rw [ht _ (by simp)]; simp [Op.word]) ?_
  obtain ⟨eA, rA, lA⟩ := share_at d ha
  have i1 : ixP (Op.opn a).D (.int 1) = .ok (.d (.int a)) := rfl
  have eR : madeR p h f W s (.opn a) = s.shares.getD a.toNat [] := rfl
  have eS : madeS p h f s (.opn a) = { s with letters := s.letters ++ opensI s.shares.length h (s.shares.getD a.toNat []) h.toNat } := rfl
  rw [eR, eS]
  generalize s.shares.getD a.toNat [] = A at *
  have hA : atI (s.shares.map lst) a = some (lst A) := by rw [atI_pos ha.1, List.getElem?_map, eA]; rfl
  have pA := plS_dl 0 [.fld "Desk" "shares"] (s.shares.map lst) a _ hA
  obtain ⟨I, hI⟩ : ∃ I : Nat → Env → Prop, ∀ j e, I j e ↔ ∃ s3, free s3 = true ∧ e = [.rf (dsk p h f W { s with letters := s.letters ++ opensI s.shares.length h A j }), .va (.f (.d (Op.opn a).D)), .va (.f (.d (.int h))), s3, .no, .no, .no, .no] := ⟨_, fun _ _ => Iff.rfl⟩
  have loop : (forL (gN 3) (vEx (vMethX "Desk" "send" S_Desk_send 0 (xP (pF (vVar 3) (pF (frO (v2 mulV (frD (vLst (vCons (toD (v2 ixP (toD (plP (plX (plF "Desk" "shares" (plN 0)) (toD (v2 ixP (vVarD 1) (toD (vC (.int 1)))))))) (toD (v2 subI (vVarD 3) (toD (vC (.int 1))))))) vNil))) (vVarD 2))) pN))))) (rngP 1 h.toNat) (mE p h f W (Op.opn a).D s)).wp (I h.toNat) := by
    refine wp_for I ?_ ?_ ?_
    · refine (hI _ _).mpr ⟨.no, rfl, ?_⟩
      unfold mE opensI
      simp
    · intro j x e hx h1
      obtain ⟨s3, h3, rfl⟩ := (hI _ _).mp h1
      obtain ⟨hj, rfl⟩ := rng_get hx
      have hix : ixP (lst A) (.int (1 + (j : Int) - 1)) = .ok (.d (.int (A.getD j 0))) := by
        have ha := getD_at (xs := A) (a := (j : Int)) (by omega) (by omega)
        unfold lst
        rw [show (1 : Int) + (j : Int) - 1 = j by omega, ixP_l, ha]
        rfl
      have ol : (opensI s.shares.length h A j).length ≤ 7 * j := by
        unfold opensI
        have := flatMap_le (fun (k : Nat) => sentM s.shares.length h (1 + (k : Int)) (List.replicate h.toNat (A.getD k 0))) 7 (List.range j) fun k _ => Nat.le_trans (sentM_len _ _ _ _) (by omega)
        rw [List.length_range] at this
        omega
      have ms := meth_send p h f (1 + (j : Int)) W (List.replicate h.toNat (A.getD j 0)) { s with letters := s.letters ++ opensI s.shares.length h A j } hh (by simp; omega) (by show (s.letters ++ _).length < _; rw [List.length_append]; have := d.lt; omega)
      rw [gN_ap (t := s3) rfl h3, oW_some, vEx_ap]
      rw [methX_rf (p := p) (h := h) (f := f) (W := W) (s := { s with letters := s.letters ++ opensI s.shares.length h A j }) (s1 := { s with letters := s.letters ++ opensI s.shares.length h A j }) (xs := [.d (.int (1 + (j : Int))), .d (lst (List.replicate h.toNat (A.getD j 0)))]) (e1 := [.rf (dsk p h f W { s with letters := s.letters ++ opensI s.shares.length h A j }), .va (.f (.d (Op.opn a).D)), .va (.f (.d (.int h))), .va (.f (.d (.int (1 + (j : Int))))), .no, .no, .no, .no]) (by simp) rfl ?_ rfl ms]
      · rw [ofO_ok]
        refine (hI _ _).mpr ⟨.va (.f (.d (.int (1 + (j : Int))))), rfl, ?_⟩
        have e2 : opensI s.shares.length h A (j + 1) = opensI s.shares.length h A j ++ sentM s.shares.length h (1 + (j : Int)) (List.replicate h.toNat (A.getD j 0)) := by
          unfold opensI
          rw [List.range_succ, List.flatMap_append]
          simp
        rw [e2, ← List.append_assoc]
        rfl
      · have rf := rep_flat h.toNat (A.getD j 0)
        unfold lst at hix ⊢
        rw [← rf]
        have pA' : plS (.ix a) (0, [.fld "Desk" "shares"], SV.dl (s.shares.map lst)) = .ok (0, [.fld "Desk" "shares"] ++ [.ix a], .f (.d (.list (A.map .int)))) := pA
        simp (disch := first | rfl | assumption | omega | simp [*]) [i1, pA', hix]
    · intro e h1; rwa [rngP_length] at h1
  obtain ⟨e', h1, h2⟩ := wp_ex loop
  obtain ⟨s3, h3, rfl⟩ := (hI _ _).mp h2
  refine md_yes (e' := [.va (.f (.d (Op.opn a).D)), .va (.f (.d (.int h))), s3, .no, .no, .no, .no]) (by rw [ht _ (by simp)]; rfl) ?_
  have hit : v2 rng2 (toD (vC (.int 1))) (frD (v2 addV (vVarD 2) (toD (vC (.int 1))))) (mE p h f W (Op.opn a).D s) = .ok (rngP 1 h.toNat) := by
    unfold mE
    simp (disch := first | rfl | assumption | omega | simp [*])
  rw [vSeq_ap, vFor_ap, hit, ofR_ok, h1, andThen_nx]
  have el : listP (lst A) = .ok (SV.dl (A.map .int)) := rfl
  simp (disch := first | rfl | assumption | omega | simp [*]) [i1, pA, el]
theorem made_mul (a b : Int) (hp : 0 < p ∧ p < 1000) (hh : 0 ≤ h ∧ h ≤ 7) (hf : 0 ≤ f ∧ f ≤ 2) (d : DOk p h f W s) (ha : 0 ≤ a ∧ a < s.shares.length) (hb : 0 ≤ b ∧ b < s.shares.length) :
    Meth' S_Desk_made (dsk p h f W s) [.d (Op.mul a b).D] (SV.dl ((madeR p h f W s (.mul a b)).map .int)) (dsk p h f W (madeS p h f s (.mul a b))) := by
  unfold S_Desk_made B_Desk_made
  refine meth_of (md_step (made_0 _) ?_)
  have ht := fun w hw => made_word (p := p) (h := h) (f := f) (W := W) (s := s) (.mul a b) w hw
  refine md_no (by rw [ht _ (by simp)]; simp [Op.word]) ?_
  refine md_no (by rw [ht _ (by simp)]; simp [Op.word]) ?_
  refine md_no (by rw [ht _ (by simp)]; simp [Op.word]) ?_
  refine md_no (by rw [ht _ (by simp)]; simp [Op.word]) ?_
  have hr := runV_local p h f W s (.mul a b) a b rfl hp ha hb (fun r m => ⟨(d.row r m).1, by have := (d.row r m).2; omega⟩)
  obtain ⟨eA, rA, lA⟩ := share_at d ha
  obtain ⟨eB, rB, lB⟩ := share_at d hb
  have eR : madeR p h f W s (.mul a b) = summedM p h (dealsL p h f s.chance (localM p (.mul a b) (s.shares.getD a.toNat []) (s.shares.getD b.toNat []))) W := rfl
  have eS : madeS p h f s (.mul a b) = dealsS p h f s (localM p (.mul a b) (s.shares.getD a.toNat []) (s.shares.getD b.toNat [])) 0 := rfl
  rw [eR, eS]
  have nl : (localM p (.mul a b) (s.shares.getD a.toNat []) (s.shares.getD b.toNat [])).length = h.toNat := by rw [localM_length]; omega
  generalize localM p (.mul a b) (s.shares.getD a.toNat []) (s.shares.getD b.toNat []) = nums at *
  have lt := d.lt
  have hc := comp_deals p h f W (Op.mul a b).D hp hh hf nums 0 s (by omega)
  have dr := dealsL_row p h f nums s.chance
  have dlen := dealsL_length p h f nums s.chance
  have hsum := meth_summed p h f W (dealsS p h f s nums 0) (dealsL p h f s.chance nums) W hp.1 hh (by omega) (by have := d.wl; omega) (fun r m => by rw [dr r m]; omega) (fun x m => by have := d.wr x m; omega)
  have hcomp : (frE (vCompE (vItEnum (toD (frO (vMethP "Desk" "local" S_Desk_local 0 (pF (vVar 1) pN))))) (gT 2 (gsC (gN 6) (gsC (gN 7) gsN))) (vMethX "Desk" "deal" S_Desk_deal 0 (xP (pF (frO (v2 addV (vVarD 6) (toD (vC (.int 1))))) (pF (vVar 7) pN)))) [6, 7])) (mE p h f W (Op.mul a b).D s)
      = .ok (.f (.d (.list ((dealsL p h f s.chance nums).map lst)))) (mE p h f W (Op.mul a b).D (dealsS p h f s nums 0)) := by
    refine frE_ok (s := SV.dl ((dealsL p h f s.chance nums).map lst)) ?_ (frF_dl _)
    have hit : vItEnum (toD (frO (vMethP "Desk" "local" S_Desk_local 0 (pF (vVar 1) pN)))) (mE p h f W (Op.mul a b).D s) = .ok (enumP 0 (nums.map .int)) := by
      rw [vItEnum_ap, toD_ap, frO_ap, methP_any (xs := [.d (Op.mul a b).D]) (p := p) (h := h) (f := f) (W := W) (s := s) (by simp) (by unfold mE; simp) (by unfold mE; simp), hr]
      simp
    unfold vCompE
    rw [hit, oR_ok, cIf_pos (by rw [enumP_length, List.length_map]; omega)]
    rw [show wipeD (mE p h f W (Op.mul a b).D s) [6, 7] = mE p h f W (Op.mul a b).D s from rfl, hc, obind_ok, rows_leaf]
  generalize dealsL p h f s.chance nums = ls at *
  generalize dealsS p h f s nums 0 = s' at *
  refine md_yes (e' := [.va (.f (.d (Op.mul a b).D)), .va (.f (.d (.int h))), .no, .va (.f (.d (.list (ls.map lst)))), .no, .no, .no]) (by rw [ht _ (by simp)]; rfl) ?_
  rw [vSeq_ap, vSetE_ap, hcomp, ofO_ok]
  rw [show setS (mE p h f W (Op.mul a b).D s') 4 (.va (.f (.d (.list (ls.map lst))))) = .nx [.rf (dsk p h f W s'), .va (.f (.d (Op.mul a b).D)), .va (.f (.d (.int h))), .no, .va (.f (.d (.list (ls.map lst)))), .no, .no, .no] from rfl, andThen_nx, vRetE_ap]
  rw [methX_rf (xs := [.d (.list (ls.map lst)), .d (lst W)]) (e1 := [.rf (dsk p h f W s'), .va (.f (.d (Op.mul a b).D)), .va (.f (.d (.int h))), .no, .va (.f (.d (.list (ls.map lst)))), .no, .no, .no]) (by simp) rfl (by simp) rfl hsum]
  rfl
theorem made_anew (a : Int) (hp : 0 < p ∧ p < 1000) (hh : 0 ≤ h ∧ h ≤ 7) (hf : 0 ≤ f ∧ f ≤ 2) (d : DOk p h f W s) (ha : 0 ≤ a ∧ a < s.shares.length) :
    Meth' S_Desk_made (dsk p h f W s) [.d (Op.anew a).D] (SV.dl ((madeR p h f W s (.anew a)).map .int)) (dsk p h f W (madeS p h f s (.anew a))) := by
  unfold S_Desk_made B_Desk_made
  refine meth_of (md_step (made_0 _) ?_)
  have ht := fun w hw => made_word (p := p) (h := h) (f := f) (W := W) (s := s) (.anew a) w hw
  refine md_no (by rw [ht _ (by simp)]; simp [Op.word]) ?_
  refine md_no (by rw [ht _ (by simp)]; simp [Op.word]) ?_
  refine md_no (by rw [ht _ (by simp)]; simp [Op.word]) ?_
  refine md_no (by rw [ht _ (by simp)]; simp [Op.word]) ?_
  refine md_no (by rw [ht _ (by simp)]; simp [Op.word]) ?_
  obtain ⟨eA, rA, lA⟩ := share_at d ha
  have i1 : ixP (Op.anew a).D (.int 1) = .ok (.d (.int a)) := rfl
  have eR : madeR p h f W s (.anew a) = summedM p h (s.shares.getD a.toNat [] :: dealsL p h f s.chance (List.replicate h.toNat 0)) (List.replicate (h + 1).toNat 1) := rfl
  have eS : madeS p h f s (.anew a) = dealsS p h f s (List.replicate h.toNat 0) 0 := rfl
  rw [eR, eS]
  have lt := d.lt
  have hc := comp_anew p h f W (Op.anew a).D hp hh hf h.toNat 0 s (by omega)
  have dr := dealsL_row p h f (List.replicate h.toNat 0) s.chance
  have dlen := dealsL_length p h f (List.replicate h.toNat 0) s.chance
  rw [List.length_replicate] at dlen
  have sh := (dealsS_shares p h f (List.replicate h.toNat 0) 0 s).1
  generalize s.shares.getD a.toNat [] = A at *
  have hsum := meth_summed p h f W (dealsS p h f s (List.replicate h.toNat 0) 0) (A :: dealsL p h f s.chance (List.replicate h.toNat 0)) (List.replicate (h + 1).toNat 1) hp.1 hh (by simp; omega) (by simp; omega) (fun r m => by
    rcases List.mem_cons.mp m with e | m
    · rw [e, lA]
    · rw [dr r m]; omega) (fun x m => by rw [(List.mem_replicate.mp m).2]; omega)
  have hcomp : (frE (vCompE (v1 rng1 (vVarD 2)) (gN 6) (vMethX "Desk" "deal" S_Desk_deal 0 (xP (pF (frO (v2 addV (vVarD 6) (toD (vC (.int 1))))) (pF (vC (.int 0)) pN)))) [6])) (mE p h f W (Op.anew a).D s)
      = .ok (.f (.d (.list ((dealsL p h f s.chance (List.replicate h.toNat 0)).map lst)))) (mE p h f W (Op.anew a).D (dealsS p h f s (List.replicate h.toNat 0) 0)) := by
    refine frE_ok (s := SV.dl ((dealsL p h f s.chance (List.replicate h.toNat 0)).map lst)) ?_ (frF_dl _)
    have hit : v1 rng1 (vVarD 2) (mE p h f W (Op.anew a).D s) = .ok (rngP 0 h.toNat) := by
      unfold mE
      simp (disch := first | rfl | assumption | omega | simp [*])
    unfold vCompE
    rw [hit, oR_ok, cIf_pos (by rw [rngP_length]; omega)]
    rw [show wipeD (mE p h f W (Op.anew a).D s) [6] = mE p h f W (Op.anew a).D s from rfl]
    have hc' := hc
    rw [show (((0 : Nat) : Int)) = 0 from rfl] at hc'
    rw [hc', obind_ok, rows_leaf]
  have sl : s.shares.length = (dealsS p h f s (List.replicate h.toNat 0) 0).shares.length := by rw [sh]
  have hA : atI ((dealsS p h f s (List.replicate h.toNat 0) 0).shares.map lst) a = some (lst A) := by rw [sh, atI_pos ha.1, List.getElem?_map, eA]; rfl
  generalize dealsL p h f s.chance (List.replicate h.toNat 0) = ls at *
  generalize dealsS p h f s (List.replicate h.toNat 0) 0 = s' at *
  have pA := plS_dl 0 [.fld "Desk" "shares"] (s'.shares.map lst) a _ hA
  refine md_yes (e' := [.va (.f (.d (Op.anew a).D)), .va (.f (.d (.int h))), .no, .va (.f (.d (.list (ls.map lst)))), .no, .no, .no]) (by rw [ht _ (by simp)]; rfl) ?_
  rw [vSeq_ap, vSetE_ap, hcomp, ofO_ok]
  rw [show setS (mE p h f W (Op.anew a).D s') 4 (.va (.f (.d (.list (ls.map lst))))) = .nx [.rf (dsk p h f W s'), .va (.f (.d (Op.anew a).D)), .va (.f (.d (.int h))), .no, .va (.f (.d (.list (ls.map lst)))), .no, .no, .no] from rfl, andThen_nx, vRetE_ap]
  have rf := rep_flat (h + 1).toNat 1
  have l1 : ([lst A] : List PyData).length + (ls.map lst).length ≤ 16777216 := by simp; omega
  have l2 : ls.length + 1 ≤ 16777216 := by omega
  have l3 : ls.length ≤ 16777215 := by omega
  rw [methX_rf (xs := [.d (.list ((A :: ls).map lst)), .d (lst (List.replicate (h + 1).toNat 1))]) (e1 := [.rf (dsk p h f W s'), .va (.f (.d (Op.anew a).D)), .va (.f (.d (.int h))), .no, .va (.f (.d (.list (ls.map lst)))), .no, .no, .no]) (by simp) rfl ?_ rfl hsum]
  · rfl
  · show _ = Out.ok ([FV.d (.list ((A :: ls).map lst)), .d (.list ((List.replicate (h + 1).toNat (1 : Int)).map .int))].map AV.fz) _
    rw [← rf]
    simp (disch := first | rfl | assumption | omega | simp [*]) [i1, pA]
end
end VL

set_option Elab.async false
set_option linter.all false
set_option maxRecDepth 100000
set_option maxHeartbeats 4000000
namespace VL
open PySem PySem.Spec PyProof.Rows L2

section
variable {p h f : Int} {W : List Int} {s : DS}
theorem meth_made (o : Op) (hp : 0 < p ∧ p < 1000) (hh : 0 ≤ h ∧ h ≤ 7) (hf : 0 ≤ f ∧ f ≤ 2) (d : DOk p h f W s) (ho : o.ok p h s.shares.length = true) (hin : ∀ hd, o = .inn hd → ∃ c q, s.left[(hd - 1).toNat]? = some (c :: q)) :
    ∃ r, frF r = .ok (.d (lst (madeR p h f W s o))) ∧ Meth' S_Desk_made (dsk p h f W s) [.d o.D] r (dsk p h f W (madeS p h f s o)) := by
  cases o with
  | inn hd =>
    obtain ⟨c, q, e⟩ := hin hd rfl
    simp only [Op.ok, Bool.and_eq_true, decide_eq_true_iff] at ho
    exact ⟨_, rfl, made_inn hd hp hh hf d ho.1 e⟩
  | fix n => exact ⟨_, frF_dl _, made_fix n hh⟩
  | byy a n =>
    simp only [Op.ok, Bool.and_eq_true, decide_eq_true_iff] at ho
    exact ⟨_, frF_dl _, made_byy a n hp hh d ho.1⟩
  | sum a b =>
    simp only [Op.ok, Bool.and_eq_true, decide_eq_true_iff] at ho
    exact ⟨_, frF_dl _, made_two (.sum a b) a b rfl (.inl rfl) hp hh d ho.1 ho.2⟩
  | less a b =>
    simp only [Op.ok, Bool.and_eq_true, decide_eq_true_iff] at ho
    exact ⟨_, frF_dl _, made_two (.less a b) a b rfl (.inr rfl) hp hh d ho.1 ho.2⟩
  | mul a b =>
    simp only [Op.ok, Bool.and_eq_true, decide_eq_true_iff] at ho
    exact ⟨_, frF_dl _, made_mul a b hp hh hf d ho.1 ho.2⟩
  | anew a =>
    simp only [Op.ok, Bool.and_eq_true, decide_eq_true_iff] at ho
    exact ⟨_, frF_dl _, made_anew a hp hh hf d ho⟩
  | opn a =>
    simp only [Op.ok, Bool.and_eq_true, decide_eq_true_iff] at ho
    exact ⟨_, frF_dl _, made_opn a hp hh d ho⟩
def stepD (p h f : Int) (W : List Int) (s : DS) (o : Op) : DS := { madeS p h f s o with shares := s.shares ++ [madeR p h f W s o] }
theorem madeS_shares (o : Op) : (madeS p h f s o).shares = s.shares := by
  cases o <;> first | rfl | exact (dealsS_shares _ _ _ _ _ _).1
theorem meth_step (o : Op) (hp : 0 < p ∧ p < 1000) (hh : 0 ≤ h ∧ h ≤ 7) (hf : 0 ≤ f ∧ f ≤ 2) (d : DOk p h f W s) (ho : o.ok p h s.shares.length = true) (hin : ∀ hd, o = .inn hd → ∃ c q, s.left[(hd - 1).toNat]? = some (c :: q)) (hl : s.shares.length < 10000) :
    Meth' S_Desk_step (dsk p h f W s) [.d o.D] (.f (.d .none)) (dsk p h f W (stepD p h f W s o)) := by
  obtain ⟨r, hr, hm⟩ := meth_made o hp hh hf d ho hin
  unfold S_Desk_step B_Desk_step
  refine meth_of ?_
  have hg : (frE (vMethX "Desk" "made" S_Desk_made 0 (xP (pF (vVar 1) pN)))) [.rf (dsk p h f W s), .va (.f (.d o.D))] = .ok (.f (.d (lst (madeR p h f W s o)))) [.rf (dsk p h f W (madeS p h f s o)), .va (.f (.d o.D))] := by
    refine frE_ok (s := r) ?_ hr
    rw [methX_rf (xs := [.d o.D]) (e1 := [.rf (dsk p h f W s), .va (.f (.d o.D))]) (by simp) rfl (by simp) rfl hm]
    rfl
  have sh := madeS_shares (p := p) (h := h) (f := f) (s := s) o
  unfold stepD
  generalize hR : madeR p h f W s o = R at *
  generalize hS : madeS p h f s o = s' at *
  show (vEx (vAppE (plF "Desk" "shares" (plN 0)) (frE (vMethX "Desk" "made" S_Desk_made 0 (xP (pF (vVar 1) pN))))) [.rf (dsk p h f W s), .va (.f (.d o.D))]).md _ _
  rw [vEx_ap, vAppE_ap]
  rw [show ((plF "Desk" "shares" (plN 0)) [.rf (dsk p h f W s), .va (.f (.d o.D))]).bind lstP = .ok (0, [.fld "Desk" "shares"], SV.dl (s.shares.map lst)) from by simp]
  rw [oR_ok]
  dsimp only
  rw [show fldsOnly [Pst.fld "Desk" "shares"] = true from rfl, if_pos rfl, hg, obind_ok]
  have hrd : reP [.rf (dsk p h f W s'), .va (.f (.d o.D))] (0, [.fld "Desk" "shares"], SV.dl (s.shares.map lst)) = some (0, [.fld "Desk" "shares"], SV.dl (s'.shares.map lst)) := by
    unfold reP
    rw [rd_ap, nth_0, rdS_rf]
    rfl
  unfold vAppE1
  rw [hrd]
  dsimp only
  have hap : vApp1 [.rf (dsk p h f W s'), .va (.f (.d o.D))] (0, [.fld "Desk" "shares"], SV.dl (s'.shares.map lst)) (.f (.d (lst R))) = .ok (.f (.d .none)) [.rf (dsk p h f W { s' with shares := s'.shares ++ [R] }), .va (.f (.d o.D))] := by
    show cIf (((s'.shares.map lst).map fun p => SV.f (.d p)).length < 16777216) (oE (.f (.d .none)) (putP [.rf (dsk p h f W s'), .va (.f (.d o.D))] (0, [.fld "Desk" "shares"], SV.dl (s'.shares.map lst)) (((s'.shares.map lst).map fun p => SV.f (.d p)) ++ [.f (.d (lst R))]))) .bad = _
    rw [cIf_pos (by rw [List.length_map, List.length_map, sh]; omega), putP_rf rfl]
    rw [show ((s'.shares.map lst).map fun p => SV.f (.d p)) ++ [SV.f (.d (lst R))] = ((s'.shares ++ [R]).map lst).map fun p => SV.f (.d p) by rw [List.map_append, List.map_append]; rfl]
    show Out.ok _ _ = _
    rw [show (SV.own (((s'.shares ++ [R]).map lst).map fun p => SV.f (.d p))) = SV.dl ((s'.shares ++ [R]).map lst) from rfl, upd_shares]
    rfl
  rw [hap, ofO_ok, sh]
  exact md_nx _ _
end
theorem setF_step {n : Str} {g : FO} {e' : Env} {t t' u : SV} (hg : g (.rf t :: e') = .ok u) (hs : setF "Desk" n u t = some t') : vSetF "Desk" 0 n g (.rf t :: e') = .nx (.rf t' :: e'.map dv) := by
  unfold vSetF
  rw [hg, ofR_ok, tree_rf (s := t) rfl]
  dsimp only
  rw [hs]
  rfl
theorem make_desk (p h f : Int) {W : List Int} (hW : run S_weights [tbl p h f] = .ok (.d (lst W))) (ins : List (List Int)) (ch : List Int) (hi : ins.length < 1000) :
    outM (S_Desk___init__ (.rf (.obj "Desk" []) :: ([tbl p h f, .d (rowsP ins), .d (lst ch)] : List FV).map vaF)) = .ok (dsk p h f W ⟨ins, ch, [], []⟩) := by
  unfold S_Desk___init__ B_Desk___init__ mkFn
  have el : frF (SV.dl (ch.map .int)) = .ok (.d (lst ch)) := frF_dl _
  have e1 : vSetF "Desk" 0 "table" (unO (vVar 1)) (.rf (.obj "Desk" []) :: [.va (.f (tbl p h f)), .va (.f (.d (rowsP ins))), .va (.f (.d (lst ch))), .no]) = .nx (.rf (.obj "Desk" [("table", .f (tbl p h f))]) :: [.va (.f (tbl p h f)), .va (.f (.d (rowsP ins))), .va (.f (.d (lst ch))), .no]) :=
    setF_step (u := .f (tbl p h f)) (by simp) (by rfl)
  have e2 : vSetF "Desk" 0 "left" (vComp (vItL (vVarD 2)) (gN 4) vYes (v1 listP (vVarD 4)) [4]) (.rf (.obj "Desk" [("table", .f (tbl p h f))]) :: [.va (.f (tbl p h f)), .va (.f (.d (rowsP ins))), .va (.f (.d (lst ch))), .no]) = .nx (.rf (.obj "Desk" [("table", .f (tbl p h f)), ("left", SV.dll (rowsD ins))]) :: [.va (.f (tbl p h f)), .va (.f (.d (rowsP ins))), .va (.f (.d (lst ch))), .no]) :=
    setF_step (u := SV.dll (rowsD ins)) (lists_comp ins (by simp [rowsP]) hi (by simp)) (by rfl)
  have e3 : vSetF "Desk" 0 "chance" (unO (frO (v1 listP (vVarD 3)))) (.rf (.obj "Desk" [("table", .f (tbl p h f)), ("left", SV.dll (rowsD ins))]) :: [.va (.f (tbl p h f)), .va (.f (.d (rowsP ins))), .va (.f (.d (lst ch))), .no]) = .nx (.rf (.obj "Desk" [("table", .f (tbl p h f)), ("left", SV.dll (rowsD ins)), ("chance", .f (.d (lst ch)))]) :: [.va (.f (tbl p h f)), .va (.f (.d (rowsP ins))), .va (.f (.d (lst ch))), .no]) :=
    setF_step (u := .f (.d (lst ch))) (by
      have : listP (lst ch) = .ok (SV.dl (ch.map .int)) := rfl
      simp [this, el]) (by rfl)
  have e4 : vSetF "Desk" 0 "shares" (vLst vNil) (.rf (.obj "Desk" [("table", .f (tbl p h f)), ("left", SV.dll (rowsD ins)), ("chance", .f (.d (lst ch)))]) :: [.va (.f (tbl p h f)), .va (.f (.d (rowsP ins))), .va (.f (.d (lst ch))), .no]) = .nx (.rf (.obj "Desk" [("table", .f (tbl p h f)), ("left", SV.dll (rowsD ins)), ("chance", .f (.d (lst ch))), ("shares", SV.dl [])]) :: [.va (.f (tbl p h f)), .va (.f (.d (rowsP ins))), .va (.f (.d (lst ch))), .no]) :=
    setF_step (u := SV.dl []) (by simp) (by rfl)
  have e5 : vSetF "Desk" 0 "letters" (vLst vNil) (.rf (.obj "Desk" [("table", .f (tbl p h f)), ("left", SV.dll (rowsD ins)), ("chance", .f (.d (lst ch))), ("shares", SV.dl [])]) :: [.va (.f (tbl p h f)), .va (.f (.d (rowsP ins))), .va (.f (.d (lst ch))), .no]) = .nx (.rf (.obj "Desk" [("table", .f (tbl p h f)), ("left", SV.dll (rowsD ins)), ("chance", .f (.d (lst ch))), ("shares", SV.dl []), ("letters", SV.dl [])]) :: [.va (.f (tbl p h f)), .va (.f (.d (rowsP ins))), .va (.f (.d (lst ch))), .no]) :=
    setF_step (u := SV.dl []) (by simp) (by rfl)
  have e6 : vSetF "Desk" 0 "weights" (unO (frO (vCall S_weights (aC (vVar 1) aN)))) (.rf (.obj "Desk" [("table", .f (tbl p h f)), ("left", SV.dll (rowsD ins)), ("chance", .f (.d (lst ch))), ("shares", SV.dl []), ("letters", SV.dl [])]) :: [.va (.f (tbl p h f)), .va (.f (.d (rowsP ins))), .va (.f (.d (lst ch))), .no]) = .nx (.rf (dsk p h f W ⟨ins, ch, [], []⟩) :: [.va (.f (tbl p h f)), .va (.f (.d (rowsP ins))), .va (.f (.d (lst ch))), .no]) :=
    setF_step (u := .f (.d (lst W))) (by simp [hW]) (by rfl)
  show outM (match (vSeq (vSetF "Desk" 0 "table" (unO (vVar 1))) _) (.rf (.obj "Desk" []) :: [.va (.f (tbl p h f)), .va (.f (.d (rowsP ins))), .va (.f (.d (lst ch))), .no]) with | .rt s e => _ | .nx e => _ | .err c e => _ | .bad => _) = _
  rw [vSeq_ap, e1, andThen_nx, vSeq_ap, e2, andThen_nx, vSeq_ap, e3, andThen_nx, vSeq_ap, e4, andThen_nx, vSeq_ap, e5, andThen_nx, e6]
  rfl
end VL

set_option Elab.async false
set_option linter.all false
set_option maxRecDepth 100000
set_option maxHeartbeats 4000000
namespace VL
open PySem PySem.Spec PyProof.Rows L2

def chOk (p n : Int) (ch : List Int) : Bool := decide ((ch.length : Int) = n) && ch.all fun c => decide (0 ≤ c) && decide (c < p)
theorem run_check_chance (p h f : Int) (os : List Op) (ch : List Int) (hl : os.length < 1000) (hf : 0 ≤ f ∧ f ≤ 2) (cl : ch.length < 100000) (hR : rightM p h os = true) :
    run S_check_chance [tbl p h f, .d (opsD os), .d (lst ch)] = if chOk p (needsM h f os) ch = true then .ok (.d .none) else .err "BadChance" := by
  unfold S_check_chance B_check_chance
  rw [run_mk]
  have hn := run_needs p h f os hl hf
  rw [if_pos hR] at hn
  have ha := all_num p h f ch (by omega) [.va (.f (tbl p h f)), .va (.f (.d (opsD os))), .va (.f (.d (lst ch))), .no] 2 3 rfl rfl (by simp) (by omega)
  have hln : lenP (lst ch) = .ok (.d (.int ch.length)) := by unfold lst; rw [lenP_l, List.length_map]
  show fin ((vIfS (vOrT _ (vNotT _)) _ _) [.va (.f (tbl p h f)), .va (.f (.d (opsD os))), .va (.f (.d (lst ch))), .no]) = _
  rw [vIfS_ap, vOrT_ap, vNotT_ap, ha]
  unfold chOk
  by_cases h1 : (ch.length : Int) = needsM h f os
  · cases h2 : (ch.all fun c => decide (0 ≤ c) && decide (c < p)) <;> simp (disch := first | rfl | assumption | omega | simp [*]) [hn, hln, h1]
  · simp (disch := first | rfl | assumption | omega | simp [*]) [hn, hln, h1]
theorem run_check_all (p h f : Int) (os : List Op) (ins : List (List Int)) (ch : List Int) (hl : os.length < 1000) (hf : 0 ≤ f ∧ f ≤ 2) (il : ins.length < 1000) (hr : ∀ r ∈ ins, r.length < 1000) (cl : ch.length < 100000) :
    run S_check_all [tbl p h f, .d (opsD os), .d (rowsP ins), .d (lst ch)] = if rightM p h os = true then (if inOk p h os ins = true then (if chOk p (needsM h f os) ch = true then .ok (.d .none) else .err "BadChance") else .err "BadInputs") else .err "BadSteps" := by
  unfold S_check_all B_check_all
  rw [run_mk, vSeq_ap]
  have h1 := run_check_steps p h f os hl
  by_cases hR : rightM p h os = true
  · rw [if_pos hR] at h1 ⊢
    rw [drop_ok (xs := [tbl p h f, .d (opsD os)]) rfl h1, andThen_nx, vSeq_ap]
    have h2 := run_check_inputs p h f os ins hl il hr
    by_cases hI : inOk p h os ins = true
    · rw [if_pos hI] at h2 ⊢
      rw [drop_ok (xs := [tbl p h f, .d (opsD os), .d (rowsP ins)]) rfl h2, andThen_nx]
      have h3 := run_check_chance p h f os ch hl hf cl hR
      by_cases hC : chOk p (needsM h f os) ch = true
      · rw [if_pos hC] at h3 ⊢
        rw [drop_ok (xs := [tbl p h f, .d (opsD os), .d (lst ch)]) rfl h3]
        rfl
      · rw [if_neg hC] at h3 ⊢
        rw [drop_err (xs := [tbl p h f, .d (opsD os), .d (lst ch)]) rfl h3]
        rfl
    · rw [if_neg hI] at h2 ⊢
      rw [drop_err (xs := [tbl p h f, .d (opsD os), .d (rowsP ins)]) rfl h2]
      rfl
  · rw [if_neg hR] at h1 ⊢
    rw [drop_err (xs := [tbl p h f, .d (opsD os)]) rfl h1]
    rfl
def deskI (p h f : Int) (W : List Int) (ins : List (List Int)) (ch : List Int) (os : List Op) : Nat → DS
  | 0 => ⟨ins, ch, [], []⟩
  | i + 1 => match os[i]? with
    | some o => stepD p h f W (deskI p h f W ins ch os i) o
    | none => deskI p h f W ins ch os i
section
variable {p h f : Int} {W : List Int} {ins : List (List Int)} {ch : List Int} {os : List Op}
theorem deskI_succ {i : Nat} {o : Op} (hi : os[i]? = some o) : deskI p h f W ins ch os (i + 1) = stepD p h f W (deskI p h f W ins ch os i) o := by
  show (match os[i]? with | some o => stepD p h f W (deskI p h f W ins ch os i) o | none => deskI p h f W ins ch os i) = _
  rw [hi]
theorem dealtM_rng (hp : 0 < p) (n : Int) (c : List Int) : Rng p (dealtM p h n c) := fun x m => by
  unfold dealtM at m
  obtain ⟨k, _, rfl⟩ := List.mem_map.mp m
  exact ⟨Int.emod_nonneg _ (by omega), Int.emod_lt_of_pos _ hp⟩
theorem summedM_rng (hp : 0 < p) (ls : List (List Int)) (c : List Int) : Rng p (summedM p h ls c) := fun x m => by
  unfold summedM at m
  obtain ⟨k, _, rfl⟩ := List.mem_map.mp m
  exact ⟨Int.emod_nonneg _ (by omega), Int.emod_lt_of_pos _ hp⟩
theorem localM_rng (hp : 0 < p) (o : Op) (A B : List Int) : Rng p (localM p o A B) := fun x m => by
  unfold localM at m
  obtain ⟨k, _, rfl⟩ := List.mem_map.mp m
  unfold joinM
  cases o <;> exact ⟨Int.emod_nonneg _ (by omega), Int.emod_lt_of_pos _ hp⟩
theorem madeR_ok (hp : 0 < p) (hh : 0 ≤ h) {s : DS} (d : DOk p h f W s) (o : Op) (ho : o.ok p h s.shares.length = true) : Rng p (madeR p h f W s o) ∧ ((madeR p h f W s o).length : Int) = h := by
  cases o with
  | inn hd => exact ⟨dealtM_rng hp _ _, by show ((dealtM p h _ _).length : Int) = h; rw [dealtM_length]; omega⟩
  | fix n =>
    simp only [Op.ok, Bool.and_eq_true, decide_eq_true_iff] at ho
    refine ⟨fun x m => ?_, by show ((List.replicate h.toNat n).length : Int) = h; rw [List.length_replicate]; omega⟩
    have e := (List.mem_replicate.mp m).2
    rw [e]; exact ho
  | byy a n =>
    simp only [Op.ok, Bool.and_eq_true, decide_eq_true_iff] at ho
    obtain ⟨_, _, l⟩ := share_at d ho.1
    refine ⟨fun x m => ?_, by show (((s.shares.getD a.toNat []).map fun x => x * n % p).length : Int) = h; rw [List.length_map, l]⟩
    obtain ⟨y, _, rfl⟩ := List.mem_map.mp m
    exact ⟨Int.emod_nonneg _ (by omega), Int.emod_lt_of_pos _ hp⟩
  | sum a b =>
    simp only [Op.ok, Bool.and_eq_true, decide_eq_true_iff] at ho
    obtain ⟨_, _, l⟩ := share_at d ho.1
    obtain ⟨_, _, l2⟩ := share_at d ho.2
    exact ⟨localM_rng hp _ _ _, by show ((localM p _ _ _).length : Int) = h; rw [localM_length]; omega⟩
  | less a b =>
    simp only [Op.ok, Bool.and_eq_true, decide_eq_true_iff] at ho
    obtain ⟨_, _, l⟩ := share_at d ho.1
    obtain ⟨_, _, l2⟩ := share_at d ho.2
    exact ⟨localM_rng hp _ _ _, by show ((localM p _ _ _).length : Int) = h; rw [localM_length]; omega⟩
  | mul a b => exact ⟨summedM_rng hp _ _, by show ((summedM p h _ _).length : Int) = h; unfold summedM; simp; omega⟩
  | anew a => exact ⟨summedM_rng hp _ _, by show ((summedM p h _ _).length : Int) = h; unfold summedM; simp; omega⟩
  | opn a =>
    simp only [Op.ok, Bool.and_eq_true, decide_eq_true_iff] at ho
    obtain ⟨_, r, l⟩ := share_at d ho
    exact ⟨r, l⟩
theorem madeS_letters (hh : 0 ≤ h ∧ h ≤ 7) {s : DS} (d : DOk p h f W s) (o : Op) (ho : o.ok p h s.shares.length = true) : (madeS p h f s o).letters.length ≤ s.letters.length + 49 := by
  cases o with
  | inn hd =>
    show (s.letters ++ sentM _ h hd _).length ≤ _
    rw [List.length_append]
    have := sentM_len s.shares.length h hd (dealtM p h ((s.left.getD (hd - 1).toNat []).getD 0 0) (s.chance.take f.toNat))
    show s.letters.length + (sentM s.shares.length h hd (dealtM p h ((s.left.getD (hd - 1).toNat []).getD 0 0) (s.chance.take f.toNat))).length ≤ _
    omega
  | mul a b =>
    simp only [Op.ok, Bool.and_eq_true, decide_eq_true_iff] at ho
    obtain ⟨_, _, l⟩ := share_at d ho.1
    obtain ⟨_, _, l2⟩ := share_at d ho.2
    have := (dealsS_shares p h f (localM p (.mul a b) (s.shares.getD a.toNat []) (s.shares.getD b.toNat [])) 0 s).2.2.2
    rw [localM_length, show min (s.shares.getD a.toNat []).length (s.shares.getD b.toNat []).length = h.toNat by omega] at this
    have hm : h.toNat * h.toNat ≤ 7 * 7 := Nat.mul_le_mul (by omega) (by omega)
    show (dealsS p h f s _ 0).letters.length ≤ _
    omega
  | anew a =>
    have := (dealsS_shares p h f (List.replicate h.toNat 0) 0 s).2.2.2
    rw [List.length_replicate] at this
    have hm : h.toNat * h.toNat ≤ 7 * 7 := Nat.mul_le_mul (by omega) (by omega)
    show (dealsS p h f s _ 0).letters.length ≤ _
    omega
  | opn a =>
    show (s.letters ++ opensI _ h _ h.toNat).length ≤ _
    rw [List.length_append]
    have := flatMap_le (fun (k : Nat) => sentM s.shares.length h (1 + (k : Int)) (List.replicate h.toNat ((s.shares.getD a.toNat []).getD k 0))) 7 (List.range h.toNat) fun k _ => Nat.le_trans (sentM_len _ _ _ _) (by omega)
    rw [List.length_range] at this
    have e : (opensI s.shares.length h (s.shares.getD a.toNat []) h.toNat).length ≤ h.toNat * 7 := this
    omega
  | fix _ => show s.letters.length ≤ _; omega
  | byy _ _ => show s.letters.length ≤ _; omega
  | sum _ _ => show s.letters.length ≤ _; omega
  | less _ _ => show s.letters.length ≤ _; omega
theorem madeS_left {s : DS} (o : Op) : (madeS p h f s o).left = match o with
    | .inn hd => s.left.set (hd - 1).toNat (s.left.getD (hd - 1).toNat []).tail
    | _ => s.left := by
  cases o <;> first | rfl | exact (dealsS_shares _ _ _ _ _ _).2.1
structure Dsk (p h f : Int) (W : List Int) (ins : List (List Int)) (os : List Op) (s : DS) (i : Nat) : Prop where
  row : ∀ r ∈ s.shares, Rng p r ∧ (r.length : Int) = h
  num : s.shares.length = i
  left : s.left = restM os ins i
  lt : s.letters.length ≤ 49 * i
theorem Dsk.ok {s : DS} {i : Nat} (d : Dsk p h f W ins os s i) (hi : i ≤ 1000) (wl : (W.length : Int) = h) (wr : Rng p W) : DOk p h f W s := ⟨d.row, by have := d.lt; omega, wl, wr⟩
theorem rest_all (hk : okL p h os = true) (io : InOk p h os ins) {i : Nat} {hd : Int} (hi : os[i]? = some (.inn hd)) : ∃ c q, (restM os ins i)[(hd - 1).toNat]? = some (c :: q) := by
  obtain ⟨h1, h2, r, c, e1, e2, rc, e3⟩ := in_at io hk hi
  exact ⟨_, _, rest_at ins h1 e1 e2⟩
theorem dsk_all (hp : 0 < p ∧ p < 1000) (hh : 0 ≤ h ∧ h ≤ 7) (hk : okL p h os = true) (io : InOk p h os ins) (hl : os.length < 1000) (wl : (W.length : Int) = h) (wr : Rng p W) : ∀ i, i ≤ os.length → Dsk p h f W ins os (deskI p h f W ins ch os i) i
  | 0, _ => by
    refine ⟨fun r m => (by cases m), rfl, ?_, Nat.zero_le _⟩
    show ins = restM os ins 0
    unfold restM
    refine List.ext_getElem (by simp) fun j h1 h2 => ?_
    simp [usedM]
  | i + 1, h1 => by
    have hi : os[i]? = some os[i] := List.getElem?_eq_getElem (by omega)
    have ih := dsk_all hp hh hk io hl wl wr i (by omega)
    have dk := ih.ok (by omega) wl wr
    have oo := okL_at hk hi
    rw [deskI_succ hi]
    generalize deskI p h f W ins ch os i = s at *
    have mo := madeR_ok hp.1 hh.1 dk os[i] (by rw [ih.num]; exact oo)
    have ml := madeS_letters hh dk os[i] (by rw [ih.num]; exact oo)
    refine ⟨fun r m => ?_, ?_, ?_, ?_⟩
    · rcases List.mem_append.mp m with m | m
      · exact ih.row r m
      · rw [List.mem_singleton.mp m]; exact mo
    · show (s.shares ++ [madeR p h f W s os[i]]).length = i + 1
      rw [List.length_append, ih.num]; rfl
    · show (madeS p h f s os[i]).left = restM os ins (i + 1)
      rw [madeS_left]
      cases ho : os[i] with
      | inn hd =>
        rw [ho] at hi
        obtain ⟨g1, g2, r, c, e1, e2, rc, e3⟩ := in_at io hk hi
        have ra := rest_at ins g1 e1 e2
        rw [rest_inn hi ins g1 e1, ih.left]
        dsimp only
        have eg : (restM os ins i).getD (hd - 1).toNat [] = c :: r.drop (usedM (os.take i) hd + 1) := by simp only [List.getD, ra, Option.getD_some]
        rw [eg]
        rfl
      | _ =>
        rw [ho] at hi
        rw [rest_other hi ins (fun _ => rfl), ih.left]
    · show (madeS p h f s os[i]).letters.length ≤ _
      have := ih.lt
      omega
end
end VL

set_option Elab.async false
set_option linter.all false
set_option maxRecDepth 100000
set_option maxHeartbeats 4000000
namespace VL
open PySem PySem.Spec PyProof.Rows L2

def openI (p h f : Int) (W : List Int) (ins : List (List Int)) (ch : List Int) (os : List Op) : Nat → List PyData
  | 0 => []
  | i + 1 => openI p h f W ins ch os i ++ (match os[i]? with
    | some (.opn a) => [.tuple [.int (i : Int), .int (dot W ((deskI p h f W ins ch os i).shares.getD a.toNat []) % p)]]
    | _ => [])
theorem openI_len (p h f : Int) (W : List Int) (ins : List (List Int)) (ch : List Int) (os : List Op) : ∀ i, (openI p h f W ins ch os i).length ≤ i
  | 0 => Nat.le_refl _
  | i + 1 => by
    have ih := openI_len p h f W ins ch os i
    show (openI p h f W ins ch os i ++ _).length ≤ _
    rw [List.length_append]
    split
    · simp; omega
    · simp; omega
def dskZ (p h f : Int) (W : List Int) (s : DS) (b : Bool) : SV := .obj "Desk" [("table", .f (tbl p h f)), ("left", SV.dll (rowsD s.left)), ("chance", .f (.d (lst s.chance))), ("shares", .f (.d (.list (s.shares.map lst)))), ("letters", if b then .f (.d (.list s.letters)) else SV.dl s.letters), ("weights", .f (.d (lst W)))]
def runD (s : DS) (op : List PyData) : PyData := .tuple [.list (s.shares.map lst), .list s.letters, .list op]
@[simp] theorem vTupX_ap (fs : Env → Out (List AV)) (e : Env) : vTupX fs e = (fs e).bind tupX := rfl
@[simp] theorem vIxE_ap (fe : FE) (k : Int) (e : Env) : vIxE fe k e = (fe e).bind (ixE1 k) := rfl
theorem frz_shares {p h f : Int} {W : List Int} {s : DS} {e : Env} {i : Nat} (h0 : e[i]? = some (.va (dsk p h f W s))) : vFrz i [.fld "Desk" "shares"] e = .nx (e.set i (.va (dskZ p h f W s false))) := by
  unfold vFrz frzE
  rw [tree_va h0]
  dsimp only
  have h1 : subS (dsk p h f W s) [.fld "Desk" "shares"] = some (SV.dl (s.shares.map lst)) := by rfl
  rw [h1]
  dsimp only
  rw [frz?_dl]
  rfl
theorem frz_letters {p h f : Int} {W : List Int} {s : DS} {e : Env} {i : Nat} (h0 : e[i]? = some (.va (dskZ p h f W s false))) : vFrz i [.fld "Desk" "letters"] e = .nx (e.set i (.va (dskZ p h f W s true))) := by
  unfold vFrz frzE
  rw [tree_va h0]
  dsimp only
  have h1 : subS (dskZ p h f W s false) [.fld "Desk" "letters"] = some (SV.dl s.letters) := by rfl
  rw [h1]
  dsimp only
  rw [frz?_dl]
  rfl
theorem plz_shares {p h f : Int} {W : List Int} {s : DS} (i : Nat) (ps : List Pst) (b : Bool) : plS (.fld "Desk" "shares") (i, ps, dskZ p h f W s b) = .ok (i, ps ++ [.fld "Desk" "shares"], .f (.d (.list (s.shares.map lst)))) := by rfl
theorem plz_letters {p h f : Int} {W : List Int} {s : DS} (i : Nat) (ps : List Pst) : plS (.fld "Desk" "letters") (i, ps, dskZ p h f W s true) = .ok (i, ps ++ [.fld "Desk" "letters"], .f (.d (.list s.letters))) := by rfl
theorem heads_rep (n : Nat) (hn : 0 < n) (A : List Int) : ((A.map fun x => List.replicate n x).map fun r => r.getD 0 0) = A := by
  rw [List.map_map]
  have : ∀ x : Int, (List.replicate n x).getD 0 0 = x := fun x => by
    cases n with
    | zero => omega
    | succ n => rfl
  conv => rhs; rw [← List.map_id A]
  exact List.map_congr_left fun x _ => this x
theorem run_run (p h f : Int) (t : Tb p h f) {W : List Int} (hW : run S_weights [tbl p h f] = .ok (.d (lst W))) (wl : (W.length : Int) = h) (wr : Rng p W) (os : List Op) (ins : List (List Int)) (ch : List Int) (hl : os.length < 1000) (il : ins.length < 1000) (hr : ∀ r ∈ ins, r.length < 1000) (cl : ch.length < 100000) :
    run S_run [tbl p h f, .d (opsD os), .d (rowsP ins), .d (lst ch)] = if rightM p h os = true then (if inOk p h os ins = true then (if chOk p (needsM h f os) ch = true then .ok (.d (runD (deskI p h f W ins ch os os.length) (openI p h f W ins ch os os.length))) else .err "BadChance") else .err "BadInputs") else .err "BadSteps" := by
  have tp := t.pos
  have t3 := t.h3
  have t7 := t.h7
  have f1 := t.f1
  have f2 := t.f2
  unfold S_run B_run
  rw [run_mk, vSeq_ap]
  have hc := run_check_all p h f os ins ch hl (by omega) il hr cl
  by_cases hR : rightM p h os = true
  · rw [if_pos hR] at hc ⊢
    by_cases hI : inOk p h os ins = true
    · rw [if_pos hI] at hc ⊢
      by_cases hC : chOk p (needsM h f os) ch = true
      · rw [if_pos hC] at hc ⊢
        rw [drop_ok (xs := [tbl p h f, .d (opsD os), .d (rowsP ins), .d (lst ch)]) rfl hc, andThen_nx]
        have io := inOk_iff hI
        have hk : okL p h os = true := by unfold rightM at hR; rw [Bool.and_eq_true] at hR; exact hR.2
        have ol : os.length ≤ 24 := by unfold rightM at hR; rw [Bool.and_eq_true, Bool.and_eq_true] at hR; exact of_decide_eq_true hR.1.2
        have mk := make_desk p h f hW ins ch il
        have all := fun i hi => dsk_all (p := p) (h := h) (f := f) (W := W) (ins := ins) (ch := ch) (os := os) (by omega) (by omega) hk io hl wl wr i hi
        refine step_nx (e' := [.va (.f (tbl p h f)), .va (.f (.d (opsD os))), .va (.f (.d (rowsP ins))), .va (.f (.d (lst ch))), .va (dsk p h f W ⟨ins, ch, [], []⟩), .no, .no, .no, .no]) ?_ ?_
        · rw [vSetO_ap]
          unfold vMake
          rw [show (aC (vVar 0) (aC (vVar 2) (aC (vVar 3) aN))) _ = .ok [tbl p h f, .d (rowsP ins), .d (lst ch)] from by simp, bind_ok, mk, ofR_ok]
          rfl
        refine step_nx (e' := [.va (.f (tbl p h f)), .va (.f (.d (opsD os))), .va (.f (.d (rowsP ins))), .va (.f (.d (lst ch))), .va (dsk p h f W ⟨ins, ch, [], []⟩), .va (SV.dl []), .no, .no, .no]) (by simp) ?_
        obtain ⟨I, hI'⟩ : ∃ I : Nat → Env → Prop, ∀ i e, I i e ↔ ∃ s6 s7, (free s6 = true ∧ free s7 = true) ∧ e = [.va (.f (tbl p h f)), .va (.f (.d (opsD os))), .va (.f (.d (rowsP ins))), .va (.f (.d (lst ch))), .va (dsk p h f W (deskI p h f W ins ch os i)), .va (SV.dl (openI p h f W ins ch os i)), s6, s7, .no] := ⟨_, fun _ _ => Iff.rfl⟩
        refine step_wp (P := I os.length) ?_ fun e he => ?_
        · rw [vFor_ap, show vItEnum (toD (vVar 1)) _ = .ok (enumP 0 (os.map Op.D)) from by simp [opsD], ofR_ok]
          refine wp_for I ?_ ?_ ?_
          · exact (hI' _ _).mpr ⟨.no, .no, ⟨rfl, rfl⟩, rfl⟩
          · intro i x e hx h1
            obtain ⟨s6, s7, ⟨h6, h7⟩, rfl⟩ := (hI' _ _).mp h1
            obtain ⟨d, hd, rfl⟩ := enum_get hx
            rw [List.getElem?_map] at hd
            cases hi : os[i]? with
            | none => rw [hi] at hd; cases hd
            | some o =>
              rw [hi] at hd
              cases hd
              have il2 : i < os.length := (List.getElem?_eq_some_iff.mp hi).1
              have dk := all i (by omega)
              have oo := okL_at hk hi
              have oL := openI_len p h f W ins ch os i
              have dsucc := deskI_succ (p := p) (h := h) (f := f) (W := W) (ins := ins) (ch := ch) hi
              have osucc : openI p h f W ins ch os (i + 1) = openI p h f W ins ch os i ++ (match os[i]? with
                | some (.opn a) => [.tuple [.int (i : Int), .int (dot W ((deskI p h f W ins ch os i).shares.getD a.toNat []) % p)]]
                | _ => []) := rfl
              rw [hi] at osucc
              have hin : ∀ hd, o = .inn hd → ∃ c q, (deskI p h f W ins ch os i).left[(hd - 1).toNat]? = some (c :: q) := fun hd e => by
                subst e
                rw [dk.left]
                exact rest_all hk io hi
              have key : ∀ op', op' = openI p h f W ins ch os (i + 1) → I (i + 1) [.va (.f (tbl p h f)), .va (.f (.d (opsD os))), .va (.f (.d (rowsP ins))), .va (.f (.d (lst ch))), .va (dsk p h f W (stepD p h f W (deskI p h f W ins ch os i) o)), .va (SV.dl op'), .va (.f (.d (.int i))), .va (.f (.d o.D)), .no] := fun op' e => (hI' _ _).mpr ⟨.va (.f (.d (.int i))), .va (.f (.d o.D)), ⟨rfl, rfl⟩, by rw [dsucc, e]⟩
              generalize openI p h f W ins ch os i = op at *
              generalize deskI p h f W ins ch os i = s at *
              have dko := dk.ok (by omega) wl wr
              have ms := meth_step o (by omega) (by omega) (by omega) dko (by rw [dk.num]; exact oo) hin (by rw [dk.num]; omega)
              rw [show (gT 2 (gsC (gN 6) (gsC (gN 7) gsN))) (.tuple [.int (i : Int), o.D]) [.va (.f (tbl p h f)), .va (.f (.d (opsD os))), .va (.f (.d (rowsP ins))), .va (.f (.d (lst ch))), .va (dsk p h f W s), .va (SV.dl op), s6, s7, .no] = some [.va (.f (tbl p h f)), .va (.f (.d (opsD os))), .va (.f (.d (rowsP ins))), .va (.f (.d (lst ch))), .va (dsk p h f W s), .va (SV.dl op), .va (.f (.d (.int i))), .va (.f (.d o.D)), .no] from by simp [h6, h7]]
              rw [oW_some, vSeq_ap]
              have e1 : vEx (vMethX "Desk" "step" S_Desk_step 4 (xP (pF (vVar 7) pN))) [.va (.f (tbl p h f)), .va (.f (.d (opsD os))), .va (.f (.d (rowsP ins))), .va (.f (.d (lst ch))), .va (dsk p h f W s), .va (SV.dl op), .va (.f (.d (.int i))), .va (.f (.d o.D)), .no]
                  = .nx [.va (.f (tbl p h f)), .va (.f (.d (opsD os))), .va (.f (.d (rowsP ins))), .va (.f (.d (lst ch))), .va (dsk p h f W (stepD p h f W s o)), .va (SV.dl op), .va (.f (.d (.int i))), .va (.f (.d o.D)), .no] := by
                rw [vEx_ap, methX_va (xs := [.d o.D]) (by simp) rfl (by simp; rfl) rfl ms]
                rfl
              rw [e1, andThen_nx]
              have hw0 := word_at o
              have hwd := cop_eq_s o.word "open" (word_ok o) (by simp)
              by_cases hop : ∃ a, o = .opn a
              · obtain ⟨a, rfl⟩ := hop
                simp only [Op.ok, Bool.and_eq_true, decide_eq_true_iff] at oo
                obtain ⟨eA, rA, lA⟩ := share_at dko (a := a) (by rw [dk.num]; exact oo)
                have eR : madeR p h f W s (.opn a) = s.shares.getD a.toNat [] := rfl
                have k2 := key (op ++ [.tuple [.int (i : Int), .int (dot W (s.shares.getD a.toNat []) % p)]]) (by rw [osucc])
                generalize hs' : stepD p h f W s (.opn a) = s' at *
                have sh : s'.shares = s.shares ++ [s.shares.getD a.toNat []] := by rw [← hs']; rfl
                generalize s.shares.getD a.toNat [] = A at *
                have hat : atI (s'.shares.map lst) (i : Int) = some (lst A) := by
                  rw [atI_pos (by omega), List.getElem?_map, sh, Int.toNat_natCast, List.getElem?_append_right (by rw [dk.num]; exact Nat.le_refl _), dk.num, Nat.sub_self]
                  rfl
                have pA := plS_dl 4 [.fld "Desk" "shares"] (s'.shares.map lst) (i : Int) _ hat
                have hsum := meth_summed p h f W s' (A.map fun x => List.replicate h.toNat x) W (by omega) (by omega) (by rw [List.length_map]; omega) (by omega) (fun r m => by
                  obtain ⟨x, _, rfl⟩ := List.mem_map.mp m
                  rw [List.length_replicate]; omega) (fun x m => by have := wr x m; omega)
                have hsl : (summedM p h (A.map fun x => List.replicate h.toNat x) W) = (dot W A % p) :: (summedM p h (A.map fun x => List.replicate h.toNat x) W).tail := by
                  obtain ⟨n, hn⟩ : ∃ n, h.toNat = n + 1 := ⟨h.toNat - 1, by omega⟩
                  have hr0 := heads_rep h.toNat (by omega) A
                  unfold summedM
                  rw [show (List.range h.toNat) = 0 :: (List.range n).map Nat.succ by rw [hn, List.range_succ_eq_map], List.map_cons, hr0]
                  rfl
                have hcomp : (vComp (vItL (toD (plP (plX (plF "Desk" "shares" (plN 4)) (vVarD 6))))) (gN 8) vYes (v2 mulV (frD (vLst (vCons (toD (vVar 8)) vNil))) (toD (vFld "Table" "hands" (vVar 0)))) [8]) [.va (.f (tbl p h f)), .va (.f (.d (opsD os))), .va (.f (.d (rowsP ins))), .va (.f (.d (lst ch))), .va (dsk p h f W s'), .va (SV.dl op), .va (.f (.d (.int i))), .va (.f (.d (Op.opn a).D)), .no]
                    = .ok (SV.dll (rowsD (A.map fun x => List.replicate h.toNat x))) := by
                  rw [comp_lstT A .int (fun _ => true) (fun x => SV.dl ((List.replicate h.toNat x).map .int))]
                  · rw [List.filter_eq_self.mpr (fun _ _ => rfl), ← rows_tree, List.map_map]
                    rfl
                  · simp [pA]
                    rfl
                  · omega
                  · intro x _
                    refine ⟨_, gN_ap (t := .no) rfl rfl, rfl, fun _ => ?_⟩
                    have rf := rep_flat h.toNat x
                    rw [← rf]
                    simp (disch := first | rfl | assumption | omega | simp [*])
                have hfr : frF (SV.dll (rowsD (A.map fun x => List.replicate h.toNat x))) = .ok (.d (.list ((A.map fun x => List.replicate h.toNat x).map lst))) := by
                  rw [frF_dll, rowsD_list]
                  rfl
                generalize (A.map fun x => List.replicate h.toNat x) = rows at *
                generalize hE : ([.va (.f (tbl p h f)), .va (.f (.d (opsD os))), .va (.f (.d (rowsP ins))), .va (.f (.d (lst ch))), .va (dsk p h f W s'), .va (SV.dl op), .va (.f (.d (.int i))), .va (.f (.d (Op.opn a).D)), .no] : Env) = E at *
                have E4 : E[4]? = some (.va (dsk p h f W s')) := by rw [← hE]; rfl
                have E5 : E[5]? = some (.va (SV.dl op)) := by rw [← hE]; rfl
                have E6 : E[6]? = some (.va (.f (.d (.int i)))) := by rw [← hE]; rfl
                have hX : vMethX "Desk" "summed" S_Desk_summed 4 (xP (pF (frO (vComp (vItL (toD (plP (plX (plF "Desk" "shares" (plN 4)) (vVarD 6))))) (gN 8) vYes (v2 mulV (frD (vLst (vCons (toD (vVar 8)) vNil))) (toD (vFld "Table" "hands" (vVar 0)))) [8])) (pF (plP (plF "Desk" "weights" (plN 4))) pN))) E = .ok (SV.dl ((summedM p h rows W).map .int)) E := by
                  rw [methX_va (xs := [.d (.list (rows.map lst)), .d (lst W)]) (e1 := E) (by simp) E4 ?_ E4 hsum]
                  · rw [← hE]; rfl
                  · rw [xP_ap, pF_ap, frO_ap, hcomp, bind_ok, hfr, bind_ok, pF_ap]
                    rw [show plP (plF "Desk" "weights" (plN 4)) E = .ok (.d (lst W)) from by simp [E4]]
                    rfl
                have hg : (vTupX (xF (vVar 6) (xE (vIxE (frE (vMethX "Desk" "summed" S_Desk_summed 4 (xP (pF (frO (vComp (vItL (toD (plP (plX (plF "Desk" "shares" (plN 4)) (vVarD 6))))) (gN 8) vYes (v2 mulV (frD (vLst (vCons (toD (vVar 8)) vNil))) (toD (vFld "Table" "hands" (vVar 0)))) [8])) (pF (plP (plF "Desk" "weights" (plN 4))) pN))))) 0) (xP pN)))) E = .ok (.f (.d (.tuple [.int i, .int (dot W A % p)]))) E := by
                  rw [vTupX_ap, xF_ap, vVar_ap, E6, ldP_va, oR_ok, xE_ap, vIxE_ap, frE_ok hX (frF_dl _), obind_ok]
                  rw [show ixE1 0 (.f (.d (.list ((summedM p h rows W).map .int)))) E = .ok (.f (.d (.int (dot W A % p)))) E from by
                    show oR (ixP (.list ((summedM p h rows W).map .int)) (.int 0)) _ = _
                    rw [hsl, List.map_cons, ixP_l, show ∀ (x : PyData) (l : List PyData), atI (x :: l) 0 = some x from fun x l => by rw [atI_pos (by omega)]; rfl]
                    rfl]
                  rw [obind_ok, xE1_f]
                  show (Out.ok [AV.fz (.d (.int i)), .fz (.d (.int (dot W A % p)))] E).bind tupX = _
                  rw [obind_ok]
                  unfold tupX
                  rw [show datasA [AV.fz (.d (.int (i : Int))), .fz (.d (.int (dot W A % p)))] = some [.int (i : Int), .int (dot W A % p)] from rfl]
                  dsimp only
                  rw [cIf_pos (by simp)]
                have ht : (toT (vCmp .eq (toD (v2 ixP (vVarD 7) (toD (vC (.int 0))))) (toD (vC (.str "open"))))) E = .ok true := by
                  rw [← hE]
                  simp [hw0, hwd, Op.word]
                rw [vIfS_ap, ht, ofR_ok, if_pos rfl, vEx_ap, vAppE_ap]
                rw [show (plN 5 E).bind lstP = .ok (5, [], SV.dl op) from by simp [E5], oR_ok]
                dsimp only
                rw [fldsOnly_nil, if_pos rfl, hg, obind_ok, appE_dl E5 (by omega), ofO_ok]
                rw [← hE]
                exact k2
              · have k2 := key op (by
                  rw [osucc]
                  cases o with
                  | opn a => exact absurd ⟨a, rfl⟩ hop
                  | _ => simp)
                have hwf : decide (o.word = ("open" : Str)) = false := by
                  cases o with
                  | opn a => exact absurd ⟨a, rfl⟩ hop
                  | _ => simp [Op.word]
                have ht : (toT (vCmp .eq (toD (v2 ixP (vVarD 7) (toD (vC (.int 0))))) (toD (vC (.str "open"))))) [.va (.f (tbl p h f)), .va (.f (.d (opsD os))), .va (.f (.d (rowsP ins))), .va (.f (.d (lst ch))), .va (dsk p h f W (stepD p h f W s o)), .va (SV.dl op), .va (.f (.d (.int i))), .va (.f (.d o.D)), .no] = .ok false := by
                  rw [← hwf]
                  simp [hw0, hwd]
                rw [vIfS_ap, ht, ofR_ok, if_neg (by simp), vSkip_ap, wp_nx]
                exact k2
          · intro e h1; rwa [enumP_length, List.length_map] at h1
        · obtain ⟨s6, s7, ⟨h6, h7⟩, rfl⟩ := (hI' _ _).mp he
          generalize openI p h f W ins ch os os.length = op at *
          generalize deskI p h f W ins ch os os.length = s at *
          refine step_nx (e' := [.va (.f (tbl p h f)), .va (.f (.d (opsD os))), .va (.f (.d (rowsP ins))), .va (.f (.d (lst ch))), .va (dsk p h f W s), .va (.f (.d (.list op))), s6, s7, .no]) (by simp) ?_
          refine step_nx (frz_shares rfl) ?_
          refine step_nx (frz_letters rfl) ?_
          unfold runD
          simp (disch := first | rfl | assumption | omega | simp [*]) [plz_shares, plz_letters]
      · rw [if_neg hC] at hc ⊢
        rw [drop_err (xs := [tbl p h f, .d (opsD os), .d (rowsP ins), .d (lst ch)]) rfl hc]
        rfl
    · rw [if_neg hI] at hc ⊢
      rw [drop_err (xs := [tbl p h f, .d (opsD os), .d (rowsP ins), .d (lst ch)]) rfl hc]
      rfl
  · rw [if_neg hR] at hc ⊢
    rw [drop_err (xs := [tbl p h f, .d (opsD os), .d (rowsP ins), .d (lst ch)]) rfl hc]
    rfl
end VL

set_option Elab.async false
set_option linter.all false
set_option maxRecDepth 100000
set_option maxHeartbeats 4000000
namespace VL
open PySem PySem.Spec PyProof.Rows L2

structure Wt (p h f : Int) (W : List Int) : Prop where
  run : run S_weights [tbl p h f] = .ok (.d (lst W))
  len : (W.length : Int) = h
  rng : Rng p W
  law : ∀ G : List Int, (G.length : Int) ≤ h → Cg p (dot W (hw h G)) (peval G 0)
theorem dot_comm : ∀ a b : List Int, dot a b = dot b a
  | [], [] => rfl
  | [], _ :: _ => rfl
  | _ :: _, [] => rfl
  | a :: as, b :: bs => by
    show a * b + dot as bs = b * a + dot bs as
    rw [dot_comm as bs, Int.mul_comm]
theorem wt_ex {p h f : Int} (t : Tb p h f) : ∃ W, Wt p h f W := by
  obtain ⟨Fs, e, wr⟩ := run_weights p h f t
  refine ⟨heads Fs, e, by rw [heads_length wr]; have := t.h3; omega, heads_rng (by have := t.pos; omega) wr, fun G hG => ?_⟩
  rw [dot_comm]
  exact wt_law t wr G hG
def dealR (p h : Int) (R : List Int) : List Int := (List.range h.toNat).map fun (k : Nat) => peval R (1 + (k : Int)) % p
theorem dealR_length (p h : Int) (R : List Int) : (dealR p h R).length = h.toNat := by unfold dealR; simp
theorem getD_map_range {n k : Nat} (F : Nat → Int) (hk : k < n) : ((List.range n).map F).getD k 0 = F k := by
  rw [List.getD_eq_getElem?_getD, List.getElem?_map, List.getElem?_range hk]
  rfl
theorem getD_dealR {p h : Int} {R : List Int} {k : Nat} (hk : k < h.toNat) : (dealR p h R).getD k 0 = peval R (1 + (k : Int)) % p := getD_map_range _ hk
def Sh (p h : Int) (A R : List Int) : Prop := ∀ k, k < h.toNat → Cg p (A.getD k 0) (peval R (1 + (k : Int)))
theorem Sh.eq {p h : Int} {A R : List Int} (s : Sh p h A R) (hp : 0 < p) (ra : Rng p A) (la : (A.length : Int) = h) : A = dealR p h R := by
  refine List.ext_getElem (by rw [dealR_length]; omega) fun k h1 h2 => ?_
  have hk : k < h.toNat := by omega
  have e1 : A.getD k 0 = A[k] := by rw [List.getD_eq_getElem?_getD, List.getElem?_eq_getElem h1]; rfl
  have e2 : (dealR p h R).getD k 0 = (dealR p h R)[k] := by rw [List.getD_eq_getElem?_getD, List.getElem?_eq_getElem h2]; rfl
  rw [← e1, ← e2, getD_dealR hk]
  have r := ra (A.getD k 0) (by rw [e1]; exact List.getElem_mem _)
  rw [← (s k hk).mod_eq, Int.emod_eq_of_lt r.1 r.2]
def RowOf (p h f v : Int) (A : List Int) : Prop := ∃ R : List Int, R.length = (f + 1).toNat ∧ Rng p R ∧ R.getD 0 0 = v ∧ Sh p h A R
section
variable {p h f : Int} {W : List Int} {s : DS}
end
end VL

set_option Elab.async false
set_option linter.all false
set_option maxRecDepth 100000
set_option maxHeartbeats 4000000
namespace VL
open PySem PySem.Spec PyProof.Rows L2

section
variable {p h f : Int} {W : List Int} {s : DS}
theorem RowOf.rng {v : Int} {A : List Int} (r : RowOf p h f v A) (hf : 0 ≤ f) : 0 ≤ v ∧ v < p := by
  obtain ⟨R, l, rr, e, _⟩ := r
  rw [← e]
  refine rr _ ?_
  rw [List.getD_eq_getElem?_getD, List.getElem?_eq_getElem (show 0 < R.length by omega)]
  exact List.getElem_mem _
end
end VL

set_option Elab.async false
set_option linter.all false
set_option maxRecDepth 100000
set_option maxHeartbeats 4000000
namespace VL
open PySem PySem.Spec PyProof.Rows L2

section
variable {p h f : Int} {W : List Int} {ins : List (List Int)} {ch : List Int} {os : List Op}
theorem needs_nn (o : Op) (hh : 0 ≤ h) (hf : 0 ≤ f) : 0 ≤ o.needs h f := by
  have := Int.mul_nonneg hf hh
  cases o <;> first | exact hf | exact this | exact Int.le_refl _
theorem needsM_nn (hh : 0 ≤ h) (hf : 0 ≤ f) : ∀ os : List Op, 0 ≤ needsM h f os
  | [] => Int.le_refl _
  | o :: os => by
    show 0 ≤ ((o :: os).map fun o => o.needs h f).sum
    rw [List.map_cons, List.sum_cons]
    have := needsM_nn hh hf os
    unfold needsM at this
    have := needs_nn o hh hf
    omega
end
end VL

set_option Elab.async false
set_option linter.all false
set_option maxRecDepth 100000
set_option maxHeartbeats 4000000
namespace VL
open PySem PySem.Spec PyProof.Rows L2

def chanceM (c : Int) (os : List Op) (p h f : Int) : List Int := (List.range (needsM h f os).toNat).map fun (k : Nat) => mixM c (200 + (0 + (k : Int))) p
theorem needsM_big (hh : 0 ≤ h ∧ h ≤ 7) (hf : 0 ≤ f ∧ f ≤ 2) : ∀ os : List Op, needsM h f os ≤ 14 * os.length
  | [] => Int.le_refl _
  | o :: os => by
    show ((o :: os).map fun o => o.needs h f).sum ≤ _
    rw [List.map_cons, List.sum_cons]
    have := needsM_big hh hf os
    unfold needsM at this
    have := (needs_rng h f hh hf o).2
    simp
    omega
theorem run_chance_by (c p h f : Int) (os : List Op) (hp : 0 < p) (hh : 0 ≤ h ∧ h ≤ 7) (hf : 0 ≤ f ∧ f ≤ 2) (hl : os.length < 1000) : run S__law_chance_by [.d (.int c), .d (opsD os), tbl p h f] = .ok (.d (lst (chanceM c os p h f))) := by
  unfold S__law_chance_by B__law_chance_by
  rw [run_mk, vRet_ap, fin_ret]
  have hn := run_lneeds p h f os hf
  have n0 := needsM_nn (h := h) (f := f) hh.1 hf.1 os
  have n1 := needsM_big hh hf os
  rw [comp_map (items := rngP 0 (needsM h f os).toNat) (fun x => .int (mixM c (200 + unI x) p))]
  · rw [map_rng fun x => mixM c (200 + x) p]
    rfl
  · simp (disch := first | rfl | assumption | omega | simp [*]) [hn]
  · rw [rngP_length]; omega
  · intro x hx
    obtain ⟨i, hi, rfl⟩ := List.getElem_of_mem hx
    obtain ⟨_, e⟩ := rng_get (List.getElem?_eq_getElem hi)
    rw [e]
    have hm := run_mix c (200 + (0 + (i : Int))) p hp
    exact ⟨_, rfl, by simp (disch := first | rfl | assumption | omega | simp [*]) [hm]⟩
theorem chanceM_length (c : Int) (os : List Op) (p h f : Int) : (chanceM c os p h f).length = (needsM h f os).toNat := by unfold chanceM; simp
theorem chanceM_rng (c : Int) (os : List Op) (p h f : Int) (hp : 0 < p) : Rng p (chanceM c os p h f) := fun x m => by
  obtain ⟨k, _, rfl⟩ := List.mem_map.mp m
  exact ⟨Int.emod_nonneg _ (by omega), Int.emod_lt_of_pos _ hp⟩
theorem chOk_iff {p n : Int} {ch : List Int} : chOk p n ch = true ↔ (ch.length : Int) = n ∧ Rng p ch := by
  unfold chOk Rng
  simp
theorem getD_mem {A : List Int} {k : Nat} (hk : k < A.length) : A.getD k 0 ∈ A := by
  rw [List.getD_eq_getElem?_getD, List.getElem?_eq_getElem hk]
  exact List.getElem_mem _
end VL

set_option Elab.async false
set_option linter.all false
set_option maxRecDepth 100000
set_option maxHeartbeats 4000000
namespace VL
open PySem PySem.Spec PyProof.Rows L2

theorem opsBy_right (ns : List Int) (start many p h : Int) (hp : 0 < p) (hh : 0 < h) (hm : 1 ≤ many ∧ many ≤ 24) : rightM p h (opsBy ns start many p h) = true := by
  unfold rightM
  rw [opsBy_ok ns start many p h hp hh, opsBy_length]
  simp
  omega
theorem inOk_of {p h : Int} {os : List Op} {ins : List (List Int)} (io : InOk p h os ins) : inOk p h os ins = true := by
  unfold inOk
  rw [decide_eq_true io.len, Bool.true_and, List.all_eq_true]
  intro b m
  obtain ⟨i, hi, rfl⟩ := List.mem_mapIdx.mp m
  obtain ⟨r1, r2⟩ := io.row i _ (List.getElem?_eq_getElem hi)
  unfold goodRow
  simp only [id_eq, Bool.and_eq_true, List.all_eq_true, decide_eq_true_iff]
  exact ⟨fun c m => r1 c m, r2⟩
end VL

set_option Elab.async false
set_option linter.all false
set_option maxRecDepth 100000
set_option maxHeartbeats 4000000
namespace VL
open PySem PySem.Spec PyProof.Rows L2

def dealersM (h : Int) : Op → List Int
  | .inn hd => [hd]
  | .mul _ _ => (List.range h.toNat).map fun (k : Nat) => 1 + (k : Int)
  | .anew _ => (List.range h.toNat).map fun (k : Nat) => 1 + (k : Int)
  | _ => []
theorem rngP_ints (lo : Int) (n : Nat) : rngP lo n = ((List.range n).map fun (k : Nat) => lo + (k : Int)).map .int := by
  unfold rngP
  rw [List.map_map]
  rfl
theorem run_dealers (p h f : Int) (hh : 0 ≤ h ∧ h ≤ 7) (o : Op) : run S_dealers [tbl p h f, .d o.D] = .ok (.d (lst (dealersM h o))) := by
  unfold S_dealers B_dealers
  rw [run_mk]
  cases o <;> (unfold Op.D dealersM lst; simp (disch := first | rfl | assumption | omega | simp [*]) [ix2_0, ix2_1, ix3_0, ix3_1, ix3_2, in_w2, rngP_ints])
theorem dealers_len (h f : Int) (hh : 0 ≤ h) (o : Op) : o.needs h f = f * ((dealersM h o).length : Int) := by
  cases o <;> simp [Op.needs, dealersM] <;> (first | (rw [Int.max_eq_left hh]) | skip)
def allD (h : Int) (os : List Op) : List Int := os.flatMap (dealersM h)
theorem allD_len (h f : Int) (hh : 0 ≤ h) : ∀ os : List Op, needsM h f os = f * ((allD h os).length : Int)
  | [] => by show (0 : Int) = f * ((0 : Nat) : Int); simp
  | o :: os => by
    show ((o :: os).map fun o => o.needs h f).sum = f * (((o :: os).flatMap (dealersM h)).length : Int)
    rw [List.map_cons, List.sum_cons, List.flatMap_cons, List.length_append]
    have ih := allD_len h f hh os
    unfold needsM allD at ih
    rw [ih, dealers_len h f hh o]
    rw [← Int.mul_add]
    congr 1
def usedRows (os : List Op) (ins : List (List Int)) (hs : List Int) : List (List Int) := hs.map fun hd => (ins.getD (hd - 1).toNat []).take (usedM os hd)
theorem run_inputs_used (os : List Op) (ins : List (List Int)) (hs : List Int) (hl : os.length < 1000) (sl : hs.length < 1000) (hr : ∀ hd ∈ hs, 1 ≤ hd ∧ hd ≤ ins.length) : run S_inputs_used [.d (opsD os), .d (rowsP ins), .d (lst hs)] = .ok (.d (rowsP (usedRows os ins hs))) := by
  unfold S_inputs_used B_inputs_used
  rw [run_mk, vRet_ap, fin_ret]
  rw [comp_map (items := hs.map .int) (fun x => .list (((ins.getD (unI x - 1).toNat []).take (usedM os (unI x))).map .int))]
  · rw [List.map_map]
    unfold rowsP usedRows
    rw [List.map_map]
    rfl
  · unfold lst; simp
  · rw [List.length_map]; omega
  · intro x hx
    obtain ⟨hd, m, rfl⟩ := List.mem_map.mp hx
    have r := hr hd m
    have hu := run_used os hd hl
    have hix : ixP (rowsP ins) (.int (hd - 1)) = .ok (.d (.list ((ins.getD (hd - 1).toNat []).map .int))) := by
      unfold rowsP
      have hk : (hd - 1).toNat < ins.length := by omega
      rw [ixP_l, atI_pos (by omega), List.getElem?_map, List.getD_eq_getElem?_getD, List.getElem?_eq_getElem hk]
      rfl
    have ct := cut_to ((ins.getD (hd - 1).toNat []).map PyData.int) (b := usedM os hd) (by omega)
    rw [show ((usedM os hd : Nat) : Int).toNat = usedM os hd by omega, ← List.map_take] at ct
    have el : ∀ r : List Int, listP (.list (r.map .int)) = .ok (SV.dl (r.map .int)) := fun _ => rfl
    show ∃ e1, _ ∧ _ = Res.ok (FV.d (PyData.list (((ins.getD (hd - 1).toNat []).take (usedM os hd)).map .int)))
    generalize ins.getD (hd - 1).toNat [] = row at *
    refine ⟨_, rfl, ?_⟩
    simp (disch := first | rfl | assumption | omega | simp [*]) [hu, hix, ct, el]
def IsLt (l : PyData) : Prop := ∃ a b c d : Int, l = .tuple [.int a, .int b, .int c, .int d]
def lto : PyData → Int
  | .tuple [_, _, .int c, _] => c
  | _ => 0
theorem sentM_lt (n h hand : Int) (nums : List Int) : ∀ l ∈ sentM n h hand nums, IsLt l := fun l m => by
  unfold sentM sentI at m
  obtain ⟨k, _, rfl⟩ := List.mem_map.mp m
  exact ⟨_, _, _, _, rfl⟩
theorem dealsS_lt (p h f : Int) : ∀ (nums : List Int) (k : Nat) (s : DS), (∀ l ∈ s.letters, IsLt l) → ∀ l ∈ (dealsS p h f s nums k).letters, IsLt l
  | [], _, s, hs => hs
  | x :: xs, k, s, hs => dealsS_lt p h f xs (k + 1) (dealS p h f ((k : Int) + 1) x s) fun l m => by
    rcases List.mem_append.mp (show l ∈ s.letters ++ sentM _ _ _ _ from m) with m | m
    · exact hs l m
    · exact sentM_lt _ _ _ _ l m
theorem madeS_lt (p h f : Int) (s : DS) (o : Op) (hs : ∀ l ∈ s.letters, IsLt l) : ∀ l ∈ (madeS p h f s o).letters, IsLt l := by
  cases o with
  | inn hd =>
    intro l m
    rcases List.mem_append.mp (show l ∈ s.letters ++ sentM _ _ _ _ from m) with m | m
    · exact hs l m
    · exact sentM_lt _ _ _ _ l m
  | mul a b => exact dealsS_lt _ _ _ _ _ _ hs
  | anew a => exact dealsS_lt _ _ _ _ _ _ hs
  | opn a =>
    intro l m
    rcases List.mem_append.mp (show l ∈ s.letters ++ opensI _ _ _ _ from m) with m | m
    · exact hs l m
    · unfold opensI at m
      obtain ⟨k, _, m⟩ := List.mem_flatMap.mp m
      exact sentM_lt _ _ _ _ l m
  | fix _ => exact hs
  | byy _ _ => exact hs
  | sum _ _ => exact hs
  | less _ _ => exact hs
theorem deskI_lt (p h f : Int) (W : List Int) (ins : List (List Int)) (ch : List Int) (os : List Op) : ∀ i, ∀ l ∈ (deskI p h f W ins ch os i).letters, IsLt l
  | 0, l, m => by cases m
  | i + 1, l, m => by
    have ih := deskI_lt p h f W ins ch os i
    have e : deskI p h f W ins ch os (i + 1) = match os[i]? with | some o => stepD p h f W (deskI p h f W ins ch os i) o | none => deskI p h f W ins ch os i := rfl
    rw [e] at m
    cases ho : os[i]? with
    | none => rw [ho] at m; exact ih l m
    | some o => rw [ho] at m; exact madeS_lt p h f _ o ih l m
def ownD (f : Int) (hs : List Int) : List Int → List Int → List Int
  | [], _ => []
  | d :: ds, ch => (if d ∈ hs then ch.take f.toNat else []) ++ ownD f hs ds (ch.drop f.toNat)
theorem ownD_snoc (f : Int) (hs : List Int) (d : Int) : ∀ (a ch : List Int), ownD f hs (a ++ [d]) ch = ownD f hs a ch ++ (if d ∈ hs then (ch.drop (f.toNat * a.length)).take f.toNat else [])
  | [], ch => by show (if d ∈ hs then ch.take f.toNat else []) ++ [] = [] ++ _; simp
  | b :: a, ch => by
    show (if b ∈ hs then ch.take f.toNat else []) ++ ownD f hs (a ++ [d]) (ch.drop f.toNat) = ((if b ∈ hs then ch.take f.toNat else []) ++ ownD f hs a (ch.drop f.toNat)) ++ _
    rw [ownD_snoc f hs d a, List.append_assoc, List.drop_drop, List.length_cons, Nat.mul_add, Nat.mul_one, Nat.add_comm f.toNat]
theorem ownD_len (f : Int) (hs : List Int) : ∀ (ds ch : List Int), (ownD f hs ds ch).length ≤ f.toNat * ds.length
  | [], _ => Nat.zero_le _
  | d :: ds, ch => by
    have := ownD_len f hs ds (ch.drop f.toNat)
    show ((if d ∈ hs then ch.take f.toNat else []) ++ ownD f hs ds (ch.drop f.toNat)).length ≤ _
    rw [List.length_append, List.length_cons, Nat.mul_add, Nat.mul_one]
    have : (if d ∈ hs then ch.take f.toNat else ([] : List Int)).length ≤ f.toNat := by
      split
      · rw [List.length_take]; omega
      · simp
    omega
end VL

set_option Elab.async false
set_option linter.all false
set_option maxRecDepth 100000
set_option maxHeartbeats 4000000
namespace VL
open PySem PySem.Spec PyProof.Rows L2

def seenL (hs : List Int) (ls : List PyData) : List PyData := ls.filter fun l => decide (lto l ∈ hs)
def seenD (f h : Int) (os : List Op) (ins : List (List Int)) (ch : List Int) (hs : List Int) (ls : List PyData) : PyData := .tuple [rowsP (usedRows os ins hs), lst (ownD f hs (allD h os) ch), .list (seenL hs ls)]
theorem hs_in {h : Int} {hs : List Int} (z : hsOk h hs = true) : hs.Pairwise (· < ·) ∧ ∀ a ∈ hs, 1 ≤ a ∧ a ≤ h := by
  obtain ⟨a, b⟩ := okFrom_spec h hs 0 z
  exact ⟨a, fun x m => by have := b x m; omega⟩
theorem hs_len {h : Int} {hs : List Int} (hh : 0 ≤ h) (z : hsOk h hs = true) : hs.length ≤ h.toNat := by
  have key : ∀ (hs : List Int) (b : Int), okFrom h b hs = true → (hs.length : Int) ≤ max 0 (h - b) := by
    intro hs
    induction hs with
    | nil => intro b _; simp; omega
    | cons a r ih =>
      intro b z
      unfold okFrom at z
      simp only [Bool.and_eq_true, decide_eq_true_iff] at z
      have := ih a z.2
      simp
      omega
  have := key hs 0 z
  omega
theorem seen_comp {it : IT} {e : Env} {hs : List Int} {ls : List PyData} (h4 : e[4]? = some (.va (.f (.d (lst hs))))) (h10 : 10 < e.length) (hl : ls.length ≤ 16777216) (hi : it e = .ok ls) (hL : ∀ l ∈ ls, IsLt l) (hw : wipeE e [10] = e) (hn : e[10]? = some .no) :
    vComp it (gN 10) (toT (vCmp .isin (toD (v2 ixP (vVarD 10) (toD (vC (.int 2))))) (vVarD 4))) (unO (vVar 10)) [10] e = .ok (SV.dl (seenL hs ls)) := by
  have := compL_lst (g := gN 10) (t := toT (vCmp .isin (toD (v2 ixP (vVarD 10) (toD (vC (.int 2))))) (vVarD 4))) (elt := unO (vVar 10)) (e := e) (id : PyData → PyData) (fun l => decide (lto l ∈ hs)) (fun l => .f (.d l)) (L := ls) fun l m => by
    obtain ⟨a, b, c, d, rfl⟩ := hL l m
    refine ⟨_, gN_ap (t := .no) hn rfl, ?_, fun _ => ?_⟩
    · have h4' : (e.set 10 (.va (.f (.d (id (.tuple [.int a, .int b, .int c, .int d]))))))[4]? = some (.va (.f (.d (.list (hs.map .int))))) := by rw [List.getElem?_set_ne (by omega)]; exact h4
      have h10' : (e.set 10 (.va (.f (.d (id (.tuple [.int a, .int b, .int c, .int d]))))))[10]? = some (.va (.f (.d (.tuple [.int a, .int b, .int c, .int d])))) := by rw [List.getElem?_set_self h10]; rfl
      generalize (e.set 10 (.va (.f (.d (id (.tuple [.int a, .int b, .int c, .int d])))))) = e' at *
      have i2 : ixP (.tuple [.int a, .int b, .int c, .int d]) (.int 2) = .ok (.d (.int c)) := rfl
      simp (disch := first | rfl | assumption | omega | simp [*]) [i2, lto, h4', h10']
      exact decide_eq_decide.mpr Iff.rfl
    · have h10' : (e.set 10 (.va (.f (.d (id (.tuple [.int a, .int b, .int c, .int d]))))))[10]? = some (.va (.f (.d (.tuple [.int a, .int b, .int c, .int d])))) := by rw [List.getElem?_set_self h10]; rfl
      generalize (e.set 10 (.va (.f (.d (id (.tuple [.int a, .int b, .int c, .int d])))))) = e' at *
      simp (disch := first | rfl | assumption | omega | simp [*]) [h10']
  rw [vComp_ap, hi, bind_ok, cIf_pos hl, hw]
  rw [List.map_id] at this
  rw [this, bind_ok]
  have z := map_dl (seenL hs ls) id
  rw [List.map_id] at z
  rw [← z]
  rfl
theorem run_seen (p h f : Int) (t : Tb p h f) {W : List Int} (w : Wt p h f W) (os : List Op) (ins : List (List Int)) (ch hs : List Int) (hl : os.length < 1000) (il : ins.length < 1000) (hr : ∀ r ∈ ins, r.length < 1000) (cl : ch.length < 100000) :
    run S_seen [tbl p h f, .d (opsD os), .d (rowsP ins), .d (lst ch), .d (lst hs)] = if rightM p h os = true then (if inOk p h os ins = true then (if chOk p (needsM h f os) ch = true then (if hsOk h hs = true then .ok (.d (seenD f h os ins ch hs (deskI p h f W ins ch os os.length).letters)) else .err "BadHands") else .err "BadChance") else .err "BadInputs") else .err "BadSteps" := by
  have tp := t.pos
  have t3 := t.h3
  have t7 := t.h7
  have f1 := t.f1
  have f2 := t.f2
  unfold S_seen B_seen
  rw [run_mk, vSeq_ap]
  have hc := run_check_all p h f os ins ch hl ⟨by omega, by omega⟩ il hr cl
  have hrun := run_run p h f t w.run w.len w.rng os ins ch hl il hr cl
  by_cases hR : rightM p h os = true
  · by_cases hI : inOk p h os ins = true
    · by_cases hC : chOk p (needsM h f os) ch = true
      · rw [if_pos hR, if_pos hI, if_pos hC] at hc hrun ⊢
        rw [drop_ok (xs := [tbl p h f, .d (opsD os), .d (rowsP ins), .d (lst ch)]) rfl hc, andThen_nx, vSeq_ap]
        have hck := run_check_hands p h f hs
        rw [show PyData.list (hs.map .int) = lst hs from rfl] at hck
        by_cases hH : hsOk h hs = true
        · rw [if_pos hH] at hck ⊢
          rw [drop_ok (xs := [tbl p h f, .d (lst hs)]) rfl hck, andThen_nx]
          obtain ⟨hup, hin⟩ := hs_in hH
          have hsl := hs_len (by omega) hH
          have io := inOk_iff hI
          have ok : okL p h os = true := by unfold rightM at hR; simp only [Bool.and_eq_true] at hR; exact hR.2
          have ol : os.length ≤ 24 := by unfold rightM at hR; simp only [Bool.and_eq_true, decide_eq_true_iff] at hR; exact hR.1.2
          obtain ⟨ce, rc⟩ := chOk_iff.mp hC
          have al := allD_len h f (by omega) os
          have hLt := deskI_lt p h f W ins ch os os.length
          have dk := dsk_all (ch := ch) (f := f) (W := W) ⟨by omega, by omega⟩ ⟨by omega, by omega⟩ ok io hl w.len w.rng os.length (Nat.le_refl _)
          have ltl := dk.lt
          clear dk
          generalize deskI p h f W ins ch os os.length = s at *
          generalize openI p h f W ins ch os os.length = op at *
          have hused := run_inputs_used os ins hs hl (by omega) fun hd m => ⟨(hin hd m).1, by have := (hin hd m).2; have := io.len; omega⟩
          refine step_nx (e' := [.va (.f (tbl p h f)), .va (.f (.d (opsD os))), .va (.f (.d (rowsP ins))), .va (.f (.d (lst ch))), .va (.f (.d (lst hs))), .va (.f (.d (lst []))), .no, .no, .no, .no, .no]) (by simp; rfl) ?_
          refine step_nx (e' := [.va (.f (tbl p h f)), .va (.f (.d (opsD os))), .va (.f (.d (rowsP ins))), .va (.f (.d (lst ch))), .va (.f (.d (lst hs))), .va (.f (.d (lst []))), .va (.f (.d (.int 0))), .no, .no, .no, .no]) (by simp) ?_
          obtain ⟨I, hJ⟩ : ∃ I : Nat → Env → Prop, ∀ j e, I j e ↔ ∃ s7 s8, (free s7 = true ∧ free s8 = true) ∧ e = [.va (.f (tbl p h f)), .va (.f (.d (opsD os))), .va (.f (.d (rowsP ins))), .va (.f (.d (lst ch))), .va (.f (.d (lst hs))), .va (.f (.d (lst (ownD f hs (allD h (os.take j)) ch)))), .va (.f (.d (.int (f * ((allD h (os.take j)).length : Int))))), s7, s8, .no, .no] := ⟨_, fun _ _ => Iff.rfl⟩
          refine step_wp (P := I os.length) ?_ fun e he => ?_
          · have hit : vItL (toD (vVar 1)) [.va (.f (tbl p h f)), .va (.f (.d (opsD os))), .va (.f (.d (rowsP ins))), .va (.f (.d (lst ch))), .va (.f (.d (lst hs))), .va (.f (.d (lst []))), .va (.f (.d (.int 0))), .no, .no, .no, .no] = .ok (os.map Op.D) := by
              unfold opsD; simp
            rw [vFor_ap, hit, ofR_ok]
            refine wp_for I ((hJ _ _).mpr ⟨.no, .no, ⟨rfl, rfl⟩, by simp [allD, ownD]⟩) ?_ ?_
            · intro j x e hx h1
              obtain ⟨s7, s8, ⟨h7, h8⟩, rfl⟩ := (hJ _ _).mp h1
              rw [List.getElem?_map] at hx
              cases ho : os[j]? with
              | none => rw [ho] at hx; cases hx
              | some o =>
                rw [ho] at hx
                cases hx
                have hd := run_dealers p h f ⟨by omega, by omega⟩ o
                have eA : allD h (os.take (j + 1)) = allD h (os.take j) ++ dealersM h o := by unfold allD; rw [take_succ' ho, List.flatMap_append]; simp
                have eB : allD h os = allD h (os.take j) ++ (dealersM h o ++ allD h (os.drop (j + 1))) := by
                  rw [← List.append_assoc, ← eA]
                  unfold allD
                  rw [← List.flatMap_append, List.take_append_drop]
                generalize hA : allD h (os.take j) = A at *
                generalize hD : dealersM h o = D at *
                have lB := congrArg List.length eB
                rw [List.length_append, List.length_append] at lB
                rw [gN_ap (t := s7) rfl h7, oW_some]
                obtain ⟨K, hK⟩ : ∃ K : Nat → Env → Prop, ∀ i e, K i e ↔ ∃ s8, (free s8 = true) ∧ e = [.va (.f (tbl p h f)), .va (.f (.d (opsD os))), .va (.f (.d (rowsP ins))), .va (.f (.d (lst ch))), .va (.f (.d (lst hs))), .va (.f (.d (lst (ownD f hs (A ++ D.take i) ch)))), .va (.f (.d (.int (f * ((A ++ D.take i).length : Int))))), .va (.f (.d o.D)), s8, .no, .no] := ⟨_, fun _ _ => Iff.rfl⟩
                have hit2 : vItL (toD (frO (vCall S_dealers (aC (vVar 0) (aC (vVar 7) aN))))) [.va (.f (tbl p h f)), .va (.f (.d (opsD os))), .va (.f (.d (rowsP ins))), .va (.f (.d (lst ch))), .va (.f (.d (lst hs))), .va (.f (.d (lst (ownD f hs A ch)))), .va (.f (.d (.int (f * (A.length : Int))))), .va (.f (.d o.D)), s8, .no, .no] = .ok (D.map .int) := by
                  have : asL (lst D) = .ok (D.map .int) := rfl
                  simp (disch := first | rfl | assumption | omega | simp [*]) [hd, this]
                rw [vFor_ap, show (List.set [Slot.va (.f (tbl p h f)), .va (.f (.d (opsD os))), .va (.f (.d (rowsP ins))), .va (.f (.d (lst ch))), .va (.f (.d (lst hs))), .va (.f (.d (lst (ownD f hs A ch)))), .va (.f (.d (.int (f * (A.length : Int))))), s7, s8, .no, .no] 7 (.va (.f (.d o.D)))) = [.va (.f (tbl p h f)), .va (.f (.d (opsD os))), .va (.f (.d (rowsP ins))), .va (.f (.d (lst ch))), .va (.f (.d (lst hs))), .va (.f (.d (lst (ownD f hs A ch)))), .va (.f (.d (.int (f * (A.length : Int))))), .va (.f (.d o.D)), s8, .no, .no] from rfl, hit2, ofR_ok]
                refine wp_for K ((hK _ _).mpr ⟨s8, h8, by simp⟩) ?_ ?_
                · intro i y e hy h1
                  obtain ⟨s8, h8, rfl⟩ := (hK _ _).mp h1
                  rw [List.getElem?_map] at hy
                  cases hi : D[i]? with
                  | none => rw [hi] at hy; cases hy
                  | some d =>
                    rw [hi] at hy
                    cases hy
                    have il := (List.getElem?_eq_some_iff.mp hi).1
                    have eT : A ++ D.take (i + 1) = (A ++ D.take i) ++ [d] := by rw [take_succ' hi, List.append_assoc]
                    have tl : (A ++ D.take i).length < (allD h os).length := by rw [List.length_append, List.length_take]; omega
                    have oB := ownD_len f hs (A ++ D.take i) ch
                    have oS := ownD_snoc f hs d (A ++ D.take i) ch
                    generalize A ++ D.take i = B at *
                    have hle : f * (B.length : Int) + f ≤ ch.length := by
                      rw [ce, al]
                      have : f * ((B.length : Int) + 1) ≤ f * ((allD h os).length : Int) := Int.mul_le_mul_of_nonneg_left (by omega) (by omega)
                      rw [Int.mul_add, Int.mul_one] at this
                      exact this
                    have hnn : 0 ≤ f * (B.length : Int) := Int.mul_nonneg (by omega) (by omega)
                    have etn : (f * (B.length : Int)).toNat = f.toNat * B.length := by rw [Int.toNat_mul (by omega) (by omega)]; rfl
                    have hcut : cutP (ch.map PyData.int) (some (f * (B.length : Int))) (some (f * (B.length : Int) + f)) = ((ch.drop (f.toNat * B.length)).take f.toNat).map PyData.int := by
                      rw [cut_mid _ (by omega) (by omega) (by rw [List.length_map]; omega), List.drop_take, etn, show (f * (B.length : Int) + f).toNat - f.toNat * B.length = f.toNat by omega, List.map_take, List.map_drop]
                    have pl : ((ch.drop (f.toNat * B.length)).take f.toNat).length ≤ f.toNat := by rw [List.length_take]; omega
                    have el : ∀ r : List Int, listP (.list (r.map .int)) = .ok (SV.dl (r.map .int)) := fun _ => rfl
                    have hf2 : f.toNat * B.length ≤ 10000 := by
                      have : f.toNat * B.length ≤ ch.length := by omega
                      have nb := needsM_big (h := h) (f := f) ⟨by omega, by omega⟩ ⟨by omega, by omega⟩ os
                      omega
                    have e6 : f * (B.length : Int) + f = f * (((B ++ [d]).length : Nat) : Int) := by rw [List.length_append]; simp; rw [Int.mul_add, Int.mul_one]
                    rw [gN_ap (t := s8) rfl h8, oW_some]
                    rw [show (List.set [Slot.va (.f (tbl p h f)), .va (.f (.d (opsD os))), .va (.f (.d (rowsP ins))), .va (.f (.d (lst ch))), .va (.f (.d (lst hs))), .va (.f (.d (lst (ownD f hs B ch)))), .va (.f (.d (.int (f * (B.length : Int))))), .va (.f (.d o.D)), s8, .no, .no] 8 (.va (.f (.d (.int d))))) = [.va (.f (tbl p h f)), .va (.f (.d (opsD os))), .va (.f (.d (rowsP ins))), .va (.f (.d (lst ch))), .va (.f (.d (lst hs))), .va (.f (.d (lst (ownD f hs B ch)))), .va (.f (.d (.int (f * (B.length : Int))))), .va (.f (.d o.D)), .va (.f (.d (.int d))), .no, .no] from rfl]
                    have key : (K (i + 1)) [.va (.f (tbl p h f)), .va (.f (.d (opsD os))), .va (.f (.d (rowsP ins))), .va (.f (.d (lst ch))), .va (.f (.d (lst hs))), .va (.f (.d (lst (ownD f hs B ch ++ (if d ∈ hs then (ch.drop (f.toNat * B.length)).take f.toNat else []))))), .va (.f (.d (.int (f * (B.length : Int) + f)))), .va (.f (.d o.D)), .va (.f (.d (.int d))), .no, .no] := by
                      refine (hK _ _).mpr ⟨.va (.f (.d (.int d))), rfl, ?_⟩
                      rw [eT, oS, e6]
                    clear oS eT e6 eB lB
                    generalize (ch.drop (f.toNat * B.length)).take f.toNat = pc at *
                    generalize ownD f hs B ch = ow at *
                    generalize f * (B.length : Int) = at0 at *
                    have la : (ow.map PyData.int).length + (pc.map PyData.int).length ≤ 16777216 := by rw [List.length_map, List.length_map]; omega
                    have la2 : ow.length + pc.length ≤ 16777216 := by omega
                    unfold lst at *
                    by_cases hm : d ∈ hs
                    · rw [if_pos hm, List.map_append] at key
                      simp (disch := first | rfl | assumption | omega | simp [*]) [hcut, el, hm]
                      exact key
                    · rw [if_neg hm, List.append_nil] at key
                      simp (disch := first | rfl | assumption | omega | simp [*]) [hm]
                      exact key
                · intro e h1
                  rw [List.length_map] at h1
                  obtain ⟨s8, h8, rfl⟩ := (hK _ _).mp h1
                  rw [List.take_length, ← eA]
                  exact (hJ _ _).mpr ⟨.va (.f (.d o.D)), s8, ⟨rfl, h8⟩, rfl⟩
            · intro e h1; rwa [List.length_map] at h1
          · obtain ⟨s7, s8, ⟨h7, h8⟩, rfl⟩ := (hJ _ _).mp he
            rw [List.take_length]
            generalize hOw : ownD f hs (allD h os) ch = ow at *
            generalize f * ((allD h os).length : Int) = at0 at *
            have hr1 : ixP (runD s op) (.int 1) = .ok (.d (.list s.letters)) := rfl
            have hco : vComp (vItL (toD (v2 ixP (frD (vCall S_run (aC (vVar 0) (aC (vVar 1) (aC (vVar 2) (aC (vVar 3) aN)))))) (toD (vC (.int 1)))))) (gN 10) (toT (vCmp .isin (toD (v2 ixP (vVarD 10) (toD (vC (.int 2))))) (vVarD 4))) (unO (vVar 10)) [10] [.va (.f (tbl p h f)), .va (.f (.d (opsD os))), .va (.f (.d (rowsP ins))), .va (.f (.d (lst ch))), .va (.f (.d (lst hs))), .va (.f (.d (lst ow))), .va (.f (.d (.int at0))), s7, s8, .no, .no] = .ok (SV.dl (seenL hs s.letters)) := by
              refine seen_comp rfl (by simp) (by omega) ?_ hLt rfl rfl
              simp (disch := first | rfl | assumption | omega | simp [*]) [hrun, hr1]
            refine step_nx (e' := [.va (.f (tbl p h f)), .va (.f (.d (opsD os))), .va (.f (.d (rowsP ins))), .va (.f (.d (lst ch))), .va (.f (.d (lst hs))), .va (.f (.d (lst ow))), .va (.f (.d (.int at0))), s7, s8, .va (.f (.d (.list (seenL hs s.letters)))), .no]) ?_ ?_
            · rw [vSet_ap, frO_ap, hco, bind_ok, frF_dl]
              simp
            · unfold seenD
              rw [hOw]
              simp (disch := first | rfl | assumption | omega | simp [*]) [hused]
        · rw [if_neg hH] at hck ⊢
          rw [drop_err (xs := [tbl p h f, .d (lst hs)]) rfl hck]
          rfl
      · rw [if_pos hR, if_pos hI, if_neg hC] at hc ⊢
        rw [drop_err (xs := [tbl p h f, .d (opsD os), .d (rowsP ins), .d (lst ch)]) rfl hc]
        rfl
    · rw [if_pos hR, if_neg hI] at hc ⊢
      rw [drop_err (xs := [tbl p h f, .d (opsD os), .d (rowsP ins), .d (lst ch)]) rfl hc]
      rfl
  · rw [if_neg hR] at hc ⊢
    rw [drop_err (xs := [tbl p h f, .d (opsD os), .d (rowsP ins), .d (lst ch)]) rfl hc]
    rfl
end VL

set_option Elab.async false
set_option linter.all false
set_option maxRecDepth 100000
set_option maxHeartbeats 4000000
namespace VL
open PySem PySem.Spec PyProof.Rows L2

@[simp] theorem se_BadSteps_BadSteps : subE (Str.ofString "BadSteps") (Str.ofString "BadSteps") = true := by decide +kernel
@[simp] theorem se_BadSteps_BadInputs : subE (Str.ofString "BadSteps") (Str.ofString "BadInputs") = false := by decide +kernel
@[simp] theorem se_BadSteps_BadChance : subE (Str.ofString "BadSteps") (Str.ofString "BadChance") = false := by decide +kernel
@[simp] theorem se_BadSteps_BadHands : subE (Str.ofString "BadSteps") (Str.ofString "BadHands") = false := by decide +kernel
@[simp] theorem se_BadSteps_NoVeil : subE (Str.ofString "BadSteps") (Str.ofString "NoVeil") = false := by decide +kernel
@[simp] theorem se_BadSteps_V : subE (Str.ofString "BadSteps") (Str.ofString "VeilError") = true := by decide +kernel
@[simp] theorem se_BadInputs_BadSteps : subE (Str.ofString "BadInputs") (Str.ofString "BadSteps") = false := by decide +kernel
@[simp] theorem se_BadInputs_BadInputs : subE (Str.ofString "BadInputs") (Str.ofString "BadInputs") = true := by decide +kernel
@[simp] theorem se_BadInputs_BadChance : subE (Str.ofString "BadInputs") (Str.ofString "BadChance") = false := by decide +kernel
@[simp] theorem se_BadInputs_BadHands : subE (Str.ofString "BadInputs") (Str.ofString "BadHands") = false := by decide +kernel
@[simp] theorem se_BadInputs_NoVeil : subE (Str.ofString "BadInputs") (Str.ofString "NoVeil") = false := by decide +kernel
@[simp] theorem se_BadInputs_V : subE (Str.ofString "BadInputs") (Str.ofString "VeilError") = true := by decide +kernel
@[simp] theorem se_BadChance_BadSteps : subE (Str.ofString "BadChance") (Str.ofString "BadSteps") = false := by decide +kernel
@[simp] theorem se_BadChance_BadInputs : subE (Str.ofString "BadChance") (Str.ofString "BadInputs") = false := by decide +kernel
@[simp] theorem se_BadChance_BadChance : subE (Str.ofString "BadChance") (Str.ofString "BadChance") = true := by decide +kernel
@[simp] theorem se_BadChance_BadHands : subE (Str.ofString "BadChance") (Str.ofString "BadHands") = false := by decide +kernel
@[simp] theorem se_BadChance_NoVeil : subE (Str.ofString "BadChance") (Str.ofString "NoVeil") = false := by decide +kernel
@[simp] theorem se_BadChance_V : subE (Str.ofString "BadChance") (Str.ofString "VeilError") = true := by decide +kernel
@[simp] theorem se_BadHands_BadSteps : subE (Str.ofString "BadHands") (Str.ofString "BadSteps") = false := by decide +kernel
@[simp] theorem se_BadHands_BadInputs : subE (Str.ofString "BadHands") (Str.ofString "BadInputs") = false := by decide +kernel
@[simp] theorem se_BadHands_BadChance : subE (Str.ofString "BadHands") (Str.ofString "BadChance") = false := by decide +kernel
@[simp] theorem se_BadHands_BadHands : subE (Str.ofString "BadHands") (Str.ofString "BadHands") = true := by decide +kernel
@[simp] theorem se_BadHands_NoVeil : subE (Str.ofString "BadHands") (Str.ofString "NoVeil") = false := by decide +kernel
@[simp] theorem se_BadHands_V : subE (Str.ofString "BadHands") (Str.ofString "VeilError") = true := by decide +kernel
@[simp] theorem se_NoVeil_BadSteps : subE (Str.ofString "NoVeil") (Str.ofString "BadSteps") = false := by decide +kernel
@[simp] theorem se_NoVeil_BadInputs : subE (Str.ofString "NoVeil") (Str.ofString "BadInputs") = false := by decide +kernel
@[simp] theorem se_NoVeil_BadChance : subE (Str.ofString "NoVeil") (Str.ofString "BadChance") = false := by decide +kernel
@[simp] theorem se_NoVeil_BadHands : subE (Str.ofString "NoVeil") (Str.ofString "BadHands") = false := by decide +kernel
@[simp] theorem se_NoVeil_NoVeil : subE (Str.ofString "NoVeil") (Str.ofString "NoVeil") = true := by decide +kernel
@[simp] theorem se_NoVeil_V : subE (Str.ofString "NoVeil") (Str.ofString "VeilError") = true := by decide +kernel
@[simp] theorem catL_l (a b : List PyData) : catL (.list a) (.list b) = cIf (a.length + b.length ≤ 16777216) (.ok (SV.dl (a ++ b))) .bad := rfl
end VL

set_option Elab.async false
set_option linter.all false
set_option maxRecDepth 100000
set_option maxHeartbeats 4000000
namespace VL
open PySem PySem.Spec PyProof.Rows L2

end VL

set_option Elab.async false
set_option linter.all false
set_option maxRecDepth 100000
set_option maxHeartbeats 4000000
namespace VL
open PySem PySem.Spec PyProof.Rows L2

section
variable {p h f : Int} {W : List Int} {s : DS}
end
end VL

set_option Elab.async false
set_option linter.all false
set_option maxRecDepth 100000
set_option maxHeartbeats 4000000
namespace VL
open PySem PySem.Spec PyProof.Rows L2

section
variable {p h f : Int} {W : List Int}
end
section
variable {p h f : Int} {W : List Int} {ins : List (List Int)} {os : List Op}
end
def grow (p f : Int) (V hs ds diffs : List Int) (q : Nat) (c : Int) : Int := if ds.getD (q / f.toNat) 0 ∈ hs then c else (c + V.getD (q % f.toNat + 1) 0 * diffs.getD (q / f.toNat) 0) % p
section
variable {p h f : Int} {W V hs : List Int} {ins oth : List (List Int)} {os : List Op} {ch : List Int}
end
end VL

set_option Elab.async false
set_option linter.all false
set_option maxRecDepth 100000
set_option maxHeartbeats 4000000
namespace VL
open PySem PySem.Spec PyProof.Rows L2

section
variable {p h f : Int} {O I1 I2 C : FV} {d1 d2 fd : SV} {hs V : List Int} {od ds0 : FV}
end
end VL

set_option Elab.async false
set_option linter.all false
set_option maxRecDepth 100000
set_option maxHeartbeats 4000000
namespace VL
open PySem PySem.Spec PyProof.Rows L2

section
variable {p h f : Int} {W V hs : List Int} {I1 I2 C O : FV}
end
end VL

set_option Elab.async false
set_option linter.all false
set_option maxRecDepth 100000
set_option maxHeartbeats 4000000
namespace VL
open PySem PySem.Spec PyProof.Rows L2

def Rets (fl : Flow) (s : SV) : Prop := ∃ e, fl = .rt s e
theorem rets_nx {f g : ST} {e e' : Env} {s : SV} (h : f e = .nx e') (k : Rets (g e') s) : Rets (vSeq f g e) s := by
  obtain ⟨e2, h2⟩ := k
  exact ⟨e2, by rw [vSeq_ap, h, andThen_nx, h2]⟩
theorem rets_wp {f g : ST} {e : Env} {P : Env → Prop} {s : SV} (h : (f e).wp P) (k : ∀ e', P e' → Rets (g e') s) : Rets (vSeq f g e) s := by
  unfold Rets
  rw [vSeq_ap]
  cases z : f e with
  | nx e' => rw [z] at h; exact k e' h
  | _ => rw [z] at h; exact h.elim
theorem runO_rets {nl : Nat} {body : ST} {xs : List FV} {s : SV} (h : Rets (body (xs.map vaF ++ List.replicate nl .no)) s) : runO (mkFn nl body) xs = .ok s := by
  obtain ⟨e, he⟩ := h
  rw [runO_mk, he]
  rfl
end VL

set_option Elab.async false
set_option linter.all false
set_option maxRecDepth 100000
set_option maxHeartbeats 4000000
namespace VL
open PySem PySem.Spec PyProof.Rows L2

structure VeilP (p h f : Int) (hs V : List Int) : Prop where
  len : (V.length : Int) = f + 1
  rng : Rng p V
  one : V.getD 0 0 = 1
  nil : ∀ a ∈ hs, Cg p (peval V a) 0
  val : ∀ x, Cg p (peval V x) (vprod p hs x)
section
variable {p h f : Int} {V hs ds diffs c0 : List Int}
end
end VL

set_option Elab.async false
set_option linter.all false
set_option maxRecDepth 100000
set_option maxHeartbeats 4000000
namespace VL
open PySem PySem.Spec PyProof.Rows L2

section
variable {p h f : Int} {W V hs : List Int}
structure Pair (p h f : Int) (W V hs : List Int) (P Q : List Int) (s1 s2 : DS) : Prop where
  d1 : DOk p h f W s1
  d2 : DOk p h f W s2
  num : s1.shares.length = s2.shares.length
  r1 : ∀ j : Nat, j < s1.shares.length → RowOf p h f (P.getD j 0) (s1.shares.getD j [])
  r2 : ∀ j : Nat, j < s1.shares.length → RowOf p h f (Q.getD j 0) (s2.shares.getD j [])
  sh : ∀ j : Nat, j < s1.shares.length → ∀ k : Nat, k < h.toNat → Cg p ((s2.shares.getD j []).getD k 0) ((s1.shares.getD j []).getD k 0 + (Q.getD j 0 - P.getD j 0) * peval V (1 + (k : Int)))
theorem Pair.look {P Q : List Int} {s1 s2 : DS} (pr : Pair p h f W V hs P Q s1 s2) (v : VeilP p h f hs V) (hp : 0 < p) {j k : Nat} (hj : j < s1.shares.length) (hk : k < h.toNat) (hm : 1 + (k : Int) ∈ hs) : (s2.shares.getD j []).getD k 0 = (s1.shares.getD j []).getD k 0 := by
  have e := pr.sh j hj k hk
  have z := (Cg.refl p (Q.getD j 0 - P.getD j 0)).mul (v.nil _ hm)
  rw [Int.mul_zero] at z
  have e2 := e.trans ((Cg.refl p _).add z)
  rw [Int.add_zero] at e2
  obtain ⟨_, ra, la⟩ := share_at pr.d1 (a := (j : Int)) (by omega)
  obtain ⟨_, rb, lb⟩ := share_at pr.d2 (a := (j : Int)) (by rw [← pr.num]; omega)
  rw [show (j : Int).toNat = j by omega] at ra la rb lb
  exact e2.eq (rb _ (getD_mem (by omega))) (ra _ (getD_mem (by omega)))
end
end VL

set_option Elab.async false
set_option linter.all false
set_option maxRecDepth 100000
set_option maxHeartbeats 4000000
namespace VL
open PySem PySem.Spec PyProof.Rows L2

theorem Cg.sub {p a b c d : Int} (h : Cg p a b) (h' : Cg p c d) : Cg p (a - c) (b - d) := by
  have := h.add ((Cg.refl p (-1)).mul h')
  rw [show a + -1 * c = a - c by omega, show b + -1 * d = b - d by omega] at this
  exact this
section
variable {p h f : Int} {W V hs : List Int}
end
end VL

set_option Elab.async false
set_option linter.all false
set_option maxRecDepth 100000
set_option maxHeartbeats 4000000
namespace VL
open PySem PySem.Spec PyProof.Rows L2

section
variable {p h f : Int} {W V hs : List Int} {ins oth : List (List Int)} {os : List Op} {ch : List Int}
end
end VL

set_option Elab.async false
set_option linter.all false
set_option maxRecDepth 100000
set_option maxHeartbeats 4000000
namespace VL
open PySem PySem.Spec PyProof.Rows L2

section
variable {p h f : Int} {W V hs : List Int} {ins oth : List (List Int)} {os : List Op} {ch : List Int}
end
end VL

set_option Elab.async false
set_option linter.all false
set_option maxRecDepth 100000
set_option maxHeartbeats 4000000
namespace VL
open PySem PySem.Spec PyProof.Rows L2

end VL

set_option Elab.async false
set_option linter.all false
set_option maxRecDepth 100000
set_option maxHeartbeats 4000000
namespace VL
open PySem PySem.Spec PyProof.Rows L2

section
variable {ns : List Int} {p h f many way one two : Int}
end
end VL

set_option Elab.async false
set_option linter.all false
set_option maxRecDepth 100000
set_option maxHeartbeats 4000000
namespace VL
open PySem PySem.Spec PyProof.Rows L2

section
variable {ns : List Int} {p h f : Int}
end
end VL

set_option Elab.async false
set_option linter.all false
set_option maxRecDepth 100000
set_option maxHeartbeats 4000000
namespace VL
open PySem PySem.Spec PyProof.Rows L2

section
variable {ns : List Int} {p h f many way one two : Int}
end
end VL

set_option Elab.async false
set_option linter.all false
set_option maxRecDepth 100000
set_option maxHeartbeats 4000000
namespace VL
open PySem PySem.Spec PyProof.Rows L2

end VL

set_option Elab.async false
set_option linter.all false
set_option maxRecDepth 100000
set_option maxHeartbeats 4000000
namespace VL
open PySem PySem.Spec PyProof.Rows L2

end VL

set_option Elab.async false
set_option linter.all false
set_option maxRecDepth 100000
set_option maxHeartbeats 4000000
namespace VL
open PySem PySem.Spec PyProof.Rows L2

theorem fit_up : ∀ (n : Nat) (d : PyData), fit n d = true → fit (n + 1) d = true
  | 0, d, h => by cases d <;> first | rfl | exact h | cases h
  | n + 1, .list xs, h => by
    show xs.all (fit (n + 1)) = true
    have h' : xs.all (fit n) = true := h
    rw [List.all_eq_true] at h' ⊢
    exact fun x m => fit_up n x (h' x m)
  | n + 1, .tuple xs, h => by
    show xs.all (fit (n + 1)) = true
    have h' : xs.all (fit n) = true := h
    rw [List.all_eq_true] at h' ⊢
    exact fun x m => fit_up n x (h' x m)
  | n + 1, .none, _ => rfl
  | n + 1, .int _, _ => rfl
  | n + 1, .str _, h => h
  | n + 1, .bool _, h => by cases h
theorem fit_lst (n : Nat) (r : List Int) : fit (n + 1) (lst r) = true := fit_ints n r
theorem fit_lt {l : PyData} (h : IsLt l) : fit 1 l = true := by obtain ⟨a, b, c, d, rfl⟩ := h; rfl
end VL

set_option Elab.async false
set_option linter.all false
set_option maxRecDepth 100000
set_option maxHeartbeats 4000000
namespace VL
open PySem PySem.Spec PyProof.Rows L2

section
variable {p h f : Int} {W V : List Int} {os : List Op} {ins oth : List (List Int)} {hs ch : List Int}
end
end VL

set_option Elab.async false
set_option linter.all false
set_option maxRecDepth 100000
set_option maxHeartbeats 4000000
namespace VL
open PySem PySem.Spec PyProof.Rows L2

end VL

set_option Elab.async false
set_option linter.all false
set_option maxRecDepth 100000
set_option maxHeartbeats 4000000
namespace VL
open PySem PySem.Spec PyProof.Rows L2

end VL

set_option Elab.async false
set_option linter.all false
set_option maxRecDepth 100000
set_option maxHeartbeats 4000000
namespace VL
open PySem PySem.Spec PyProof.Rows L2

section
variable {p h f : Int} {W V hs : List Int} {ins oth : List (List Int)} {os : List Op} {ch : List Int}
end
end VL

set_option Elab.async false
set_option linter.all false
set_option maxRecDepth 100000
set_option maxHeartbeats 4000000
namespace VL
open PySem PySem.Spec PyProof.Rows L2

section
variable {p h f : Int} {W V hs : List Int} {ins oth : List (List Int)} {os : List Op} {ch : List Int}
end
end VL

set_option Elab.async false
set_option linter.all false
set_option maxRecDepth 100000
set_option maxHeartbeats 4000000
namespace VL
open PySem PySem.Spec PyProof.Rows L2

end VL

set_option Elab.async false
set_option linter.all false
set_option maxRecDepth 100000
set_option maxHeartbeats 4000000
namespace VL
open PySem PySem.Spec PyProof.Rows L2

end VL

set_option Elab.async false
set_option linter.all false
set_option maxRecDepth 100000
set_option maxHeartbeats 4000000
namespace VL
open PySem PySem.Spec PyProof.Rows L2

end VL

set_option Elab.async false
set_option linter.all false
set_option maxRecDepth 100000
set_option maxHeartbeats 4000000
namespace VL
open PySem PySem.Spec PyProof.Rows L2

end VL

set_option Elab.async false
set_option linter.all false
set_option maxRecDepth 100000
set_option maxHeartbeats 4000000
namespace VL
open PySem PySem.Spec PyProof.Rows L2

structure C21 (h : Int) (many : Nat) (W V : List Int) (os : List Op) (ins : List (List Int)) : Prop where
  t : Tb 5 h 1
  w : Wt 5 h 1 W
  v : VeilP 5 h 1 [1] V
  right : rightM 5 h os = true
  ok : okL 5 h os = true
  need : needsM h 1 os = many
  m : many ≤ 2
  ol : os.length ≤ 6
  io : InOk 5 h os ins
  ir : ∀ r ∈ ins, r.length < 1000
theorem C21.hk {h : Int} {many : Nat} {W V : List Int} {os : List Op} {ins : List (List Int)} (c : C21 h many W V os ins) : hsOk h [1] = true := by
  have := c.t.h3
  simp [hsOk, okFrom]; omega
theorem C21.seen {h : Int} {many : Nat} {W V : List Int} {os : List Op} {ins : List (List Int)} (c : C21 h many W V os ins) {r : List Int} (m : r ∈ rowsM 5 many) : ((r.length : Int) = needsM h 1 os ∧ Rng 5 r) ∧ run S_seen [tbl 5 h 1, .d (opsD os), .d (rowsP ins), .d (lst r), .d (lst [1])] = .ok (.d (seenD 1 h os ins r [1] (deskI 5 h 1 W ins r os os.length).letters)) := by
  obtain ⟨l, rr⟩ := rowsM_mem 5 many r m
  have rr : Rng 5 r := rr
  have hc : (r.length : Int) = needsM h 1 os := by rw [c.need, l]
  have t7 := c.t.h7
  have cm := c.m
  have ol := c.ol
  have il := c.io.len
  have := run_seen 5 h 1 c.t c.w os ins r [1] (by omega) (by omega) c.ir (by omega)
  rw [if_pos c.right, if_pos (inOk_of c.io), if_pos (chOk_iff.mpr ⟨hc, rr⟩), if_pos c.hk] at this
  exact ⟨⟨hc, rr⟩, this⟩
end VL

set_option Elab.async false
set_option linter.all false
set_option maxRecDepth 100000
set_option maxHeartbeats 4000000
namespace VL
open PySem PySem.Spec PyProof.Rows L2

end VL

set_option Elab.async false
set_option linter.all false
set_option maxRecDepth 100000
set_option maxHeartbeats 4000000
namespace VL
open PySem PySem.Spec PyProof.Rows L2

theorem runO_inputs_used (os : List Op) (ins : List (List Int)) (hs : List Int) (hl : os.length < 1000) (sl : hs.length < 1000) (hr : ∀ hd ∈ hs, 1 ≤ hd ∧ hd ≤ ins.length) : runO S_inputs_used [.d (opsD os), .d (rowsP ins), .d (lst hs)] = .ok (SV.dll (rowsD (usedRows os ins hs))) := by
  unfold S_inputs_used B_inputs_used
  rw [runO_mk, vRet_ap, finO_ret]
  rw [comp_lstT hs .int (fun _ => true) (fun hd => SV.dl (((ins.getD (hd - 1).toNat []).take (usedM os hd)).map .int))]
  · rw [List.filter_eq_self.mpr (fun _ _ => rfl), ← rows_tree]
    unfold usedRows
    rw [List.map_map]
    rfl
  · unfold lst; simp
  · omega
  · intro hd m
    have r := hr hd m
    have hu := run_used os hd hl
    have hix : ixP (rowsP ins) (.int (hd - 1)) = .ok (.d (.list ((ins.getD (hd - 1).toNat []).map .int))) := by
      unfold rowsP
      have hk : (hd - 1).toNat < ins.length := by omega
      rw [ixP_l, atI_pos (by omega), List.getElem?_map, List.getD_eq_getElem?_getD, List.getElem?_eq_getElem hk]
      rfl
    have ct := cut_to ((ins.getD (hd - 1).toNat []).map PyData.int) (b := usedM os hd) (by omega)
    rw [show ((usedM os hd : Nat) : Int).toNat = usedM os hd by omega, ← List.map_take] at ct
    have el : ∀ r : List Int, listP (.list (r.map .int)) = .ok (SV.dl (r.map .int)) := fun _ => rfl
    generalize ins.getD (hd - 1).toNat [] = row at *
    refine ⟨_, gN_ap (t := .no) rfl rfl, rfl, fun _ => ?_⟩
    simp (disch := first | rfl | assumption | omega | simp [*]) [hu, hix, ct, el]
theorem runO_seenT (p h f : Int) (t : Tb p h f) {W : List Int} (w : Wt p h f W) (os : List Op) (ins : List (List Int)) (ch hs : List Int) (hl : os.length < 1000) (il : ins.length < 1000) (hr : ∀ r ∈ ins, r.length < 1000) (cl : ch.length < 100000) (hR : rightM p h os = true) (hI : inOk p h os ins = true) (hC : chOk p (needsM h f os) ch = true) (hH : hsOk h hs = true) :
    runO S_seenT [tbl p h f, .d (opsD os), .d (rowsP ins), .d (lst ch), .d (lst hs)] = .ok (.otup [SV.dll (rowsD (usedRows os ins hs)), SV.dl ((ownD f hs (allD h os) ch).map .int), SV.dl (seenL hs (deskI p h f W ins ch os os.length).letters)]) := by
  have tp := t.pos
  have t3 := t.h3
  have t7 := t.h7
  have f1 := t.f1
  have f2 := t.f2
  unfold S_seenT B_seenT
  refine runO_rets ?_
  have hc := run_check_all p h f os ins ch hl ⟨by omega, by omega⟩ il hr cl
  have hrun := run_run p h f t w.run w.len w.rng os ins ch hl il hr cl
  rw [if_pos hR, if_pos hI, if_pos hC] at hc hrun
  refine rets_nx (drop_ok (xs := [tbl p h f, .d (opsD os), .d (rowsP ins), .d (lst ch)]) rfl hc) ?_
  have hck := run_check_hands p h f hs
  rw [show PyData.list (hs.map .int) = lst hs from rfl, if_pos hH] at hck
  refine rets_nx (drop_ok (xs := [tbl p h f, .d (lst hs)]) rfl hck) ?_
  obtain ⟨hup, hin⟩ := hs_in hH
  have hsl := hs_len (by omega) hH
  have io := inOk_iff hI
  have ok : okL p h os = true := by unfold rightM at hR; simp only [Bool.and_eq_true] at hR; exact hR.2
  have ol : os.length ≤ 24 := by unfold rightM at hR; simp only [Bool.and_eq_true, decide_eq_true_iff] at hR; exact hR.1.2
  obtain ⟨ce, rc⟩ := chOk_iff.mp hC
  have al := allD_len h f (by omega) os
  have hLt := deskI_lt p h f W ins ch os os.length
  have dk := dsk_all (ch := ch) (f := f) (W := W) ⟨by omega, by omega⟩ ⟨by omega, by omega⟩ ok io hl w.len w.rng os.length (Nat.le_refl _)
  have ltl := dk.lt
  clear dk
  generalize deskI p h f W ins ch os os.length = s at *
  generalize openI p h f W ins ch os os.length = op at *
  have hused := run_inputs_used os ins hs hl (by omega) fun hd m => ⟨(hin hd m).1, by have := (hin hd m).2; have := io.len; omega⟩
  refine rets_nx (e' := [.va (.f (tbl p h f)), .va (.f (.d (opsD os))), .va (.f (.d (rowsP ins))), .va (.f (.d (lst ch))), .va (.f (.d (lst hs))), .va (SV.dl (([] : List Int).map .int)), .no, .no, .no, .no, .no]) (by simp) ?_
  refine rets_nx (e' := [.va (.f (tbl p h f)), .va (.f (.d (opsD os))), .va (.f (.d (rowsP ins))), .va (.f (.d (lst ch))), .va (.f (.d (lst hs))), .va (SV.dl (([] : List Int).map .int)), .va (.f (.d (.int 0))), .no, .no, .no, .no]) (by simp) ?_
  obtain ⟨I, hJ⟩ : ∃ I : Nat → Env → Prop, ∀ j e, I j e ↔ ∃ s7 s8, (free s7 = true ∧ free s8 = true) ∧ e = [.va (.f (tbl p h f)), .va (.f (.d (opsD os))), .va (.f (.d (rowsP ins))), .va (.f (.d (lst ch))), .va (.f (.d (lst hs))), .va (SV.dl ((ownD f hs (allD h (os.take j)) ch).map .int)), .va (.f (.d (.int (f * ((allD h (os.take j)).length : Int))))), s7, s8, .no, .no] := ⟨_, fun _ _ => Iff.rfl⟩
  refine rets_wp (P := I os.length) ?_ fun e he => ?_
  · have hit : vItL (toD (vVar 1)) [.va (.f (tbl p h f)), .va (.f (.d (opsD os))), .va (.f (.d (rowsP ins))), .va (.f (.d (lst ch))), .va (.f (.d (lst hs))), .va (SV.dl (([] : List Int).map .int)), .va (.f (.d (.int 0))), .no, .no, .no, .no] = .ok (os.map Op.D) := by
      unfold opsD; simp
    rw [vFor_ap, hit, ofR_ok]
    refine wp_for I ((hJ _ _).mpr ⟨.no, .no, ⟨rfl, rfl⟩, by simp [allD, ownD]⟩) ?_ ?_
    · intro j x e hx h1
      obtain ⟨s7, s8, ⟨h7, h8⟩, rfl⟩ := (hJ _ _).mp h1
      rw [List.getElem?_map] at hx
      cases ho : os[j]? with
      | none => rw [ho] at hx; cases hx
      | some o =>
        rw [ho] at hx
        cases hx
        have hd := run_dealers p h f ⟨by omega, by omega⟩ o
        have eA : allD h (os.take (j + 1)) = allD h (os.take j) ++ dealersM h o := by unfold allD; rw [take_succ' ho, List.flatMap_append]; simp
        have eB : allD h os = allD h (os.take j) ++ (dealersM h o ++ allD h (os.drop (j + 1))) := by
          rw [← List.append_assoc, ← eA]
          unfold allD
          rw [← List.flatMap_append, List.take_append_drop]
        generalize hA : allD h (os.take j) = A at *
        generalize hD : dealersM h o = D at *
        have lB := congrArg List.length eB
        rw [List.length_append, List.length_append] at lB
        rw [gN_ap (t := s7) rfl h7, oW_some]
        obtain ⟨K, hK⟩ : ∃ K : Nat → Env → Prop, ∀ i e, K i e ↔ ∃ s8, (free s8 = true) ∧ e = [.va (.f (tbl p h f)), .va (.f (.d (opsD os))), .va (.f (.d (rowsP ins))), .va (.f (.d (lst ch))), .va (.f (.d (lst hs))), .va (SV.dl ((ownD f hs (A ++ D.take i) ch).map .int)), .va (.f (.d (.int (f * ((A ++ D.take i).length : Int))))), .va (.f (.d o.D)), s8, .no, .no] := ⟨_, fun _ _ => Iff.rfl⟩
        have hit2 : vItL (toD (frO (vCall S_dealers (aC (vVar 0) (aC (vVar 7) aN))))) [.va (.f (tbl p h f)), .va (.f (.d (opsD os))), .va (.f (.d (rowsP ins))), .va (.f (.d (lst ch))), .va (.f (.d (lst hs))), .va (SV.dl ((ownD f hs A ch).map .int)), .va (.f (.d (.int (f * (A.length : Int))))), .va (.f (.d o.D)), s8, .no, .no] = .ok (D.map .int) := by
          have : asL (lst D) = .ok (D.map .int) := rfl
          simp (disch := first | rfl | assumption | omega | simp [*]) [hd, this]
        rw [vFor_ap, show (List.set [Slot.va (.f (tbl p h f)), .va (.f (.d (opsD os))), .va (.f (.d (rowsP ins))), .va (.f (.d (lst ch))), .va (.f (.d (lst hs))), .va (SV.dl ((ownD f hs A ch).map .int)), .va (.f (.d (.int (f * (A.length : Int))))), s7, s8, .no, .no] 7 (.va (.f (.d o.D)))) = [.va (.f (tbl p h f)), .va (.f (.d (opsD os))), .va (.f (.d (rowsP ins))), .va (.f (.d (lst ch))), .va (.f (.d (lst hs))), .va (SV.dl ((ownD f hs A ch).map .int)), .va (.f (.d (.int (f * (A.length : Int))))), .va (.f (.d o.D)), s8, .no, .no] from rfl, hit2, ofR_ok]
        refine wp_for K ((hK _ _).mpr ⟨s8, h8, by simp⟩) ?_ ?_
        · intro i y e hy h1
          obtain ⟨s8, h8, rfl⟩ := (hK _ _).mp h1
          rw [List.getElem?_map] at hy
          cases hi : D[i]? with
          | none => rw [hi] at hy; cases hy
          | some d =>
            rw [hi] at hy
            cases hy
            have il := (List.getElem?_eq_some_iff.mp hi).1
            have eT : A ++ D.take (i + 1) = (A ++ D.take i) ++ [d] := by rw [take_succ' hi, List.append_assoc]
            have tl : (A ++ D.take i).length < (allD h os).length := by rw [List.length_append, List.length_take]; omega
            have oB := ownD_len f hs (A ++ D.take i) ch
            have oS := ownD_snoc f hs d (A ++ D.take i) ch
            generalize A ++ D.take i = B at *
            have hle : f * (B.length : Int) + f ≤ ch.length := by
              rw [ce, al]
              have : f * ((B.length : Int) + 1) ≤ f * ((allD h os).length : Int) := Int.mul_le_mul_of_nonneg_left (by omega) (by omega)
              rw [Int.mul_add, Int.mul_one] at this
              exact this
            have hnn : 0 ≤ f * (B.length : Int) := Int.mul_nonneg (by omega) (by omega)
            have etn : (f * (B.length : Int)).toNat = f.toNat * B.length := by rw [Int.toNat_mul (by omega) (by omega)]; rfl
            have hcut : cutP (ch.map PyData.int) (some (f * (B.length : Int))) (some (f * (B.length : Int) + f)) = ((ch.drop (f.toNat * B.length)).take f.toNat).map PyData.int := by
              rw [cut_mid _ (by omega) (by omega) (by rw [List.length_map]; omega), List.drop_take, etn, show (f * (B.length : Int) + f).toNat - f.toNat * B.length = f.toNat by omega, List.map_take, List.map_drop]
            have pl : ((ch.drop (f.toNat * B.length)).take f.toNat).length ≤ f.toNat := by rw [List.length_take]; omega
            have el : ∀ r : List Int, listP (.list (r.map .int)) = .ok (SV.dl (r.map .int)) := fun _ => rfl
            have hf2 : f.toNat * B.length ≤ 10000 := by
              have : f.toNat * B.length ≤ ch.length := by omega
              have nb := needsM_big (h := h) (f := f) ⟨by omega, by omega⟩ ⟨by omega, by omega⟩ os
              omega
            have e6 : f * (B.length : Int) + f = f * (((B ++ [d]).length : Nat) : Int) := by rw [List.length_append]; simp; rw [Int.mul_add, Int.mul_one]
            rw [gN_ap (t := s8) rfl h8, oW_some]
            rw [show (List.set [Slot.va (.f (tbl p h f)), .va (.f (.d (opsD os))), .va (.f (.d (rowsP ins))), .va (.f (.d (lst ch))), .va (.f (.d (lst hs))), .va (SV.dl ((ownD f hs B ch).map .int)), .va (.f (.d (.int (f * (B.length : Int))))), .va (.f (.d o.D)), s8, .no, .no] 8 (.va (.f (.d (.int d))))) = [.va (.f (tbl p h f)), .va (.f (.d (opsD os))), .va (.f (.d (rowsP ins))), .va (.f (.d (lst ch))), .va (.f (.d (lst hs))), .va (SV.dl ((ownD f hs B ch).map .int)), .va (.f (.d (.int (f * (B.length : Int))))), .va (.f (.d o.D)), .va (.f (.d (.int d))), .no, .no] from rfl]
            have key : (K (i + 1)) [.va (.f (tbl p h f)), .va (.f (.d (opsD os))), .va (.f (.d (rowsP ins))), .va (.f (.d (lst ch))), .va (.f (.d (lst hs))), .va (SV.dl ((ownD f hs B ch ++ (if d ∈ hs then (ch.drop (f.toNat * B.length)).take f.toNat else [])).map .int)), .va (.f (.d (.int (f * (B.length : Int) + f)))), .va (.f (.d o.D)), .va (.f (.d (.int d))), .no, .no] := by
              refine (hK _ _).mpr ⟨.va (.f (.d (.int d))), rfl, ?_⟩
              rw [eT, oS, e6]
            clear oS eT e6 eB lB
            generalize (ch.drop (f.toNat * B.length)).take f.toNat = pc at *
            generalize ownD f hs B ch = ow at *
            generalize f * (B.length : Int) = at0 at *
            have la : (ow.map PyData.int).length + (pc.map PyData.int).length ≤ 16777216 := by rw [List.length_map, List.length_map]; omega
            have la2 : ow.length + pc.length ≤ 16777216 := by omega
            unfold lst at *
            by_cases hm : d ∈ hs
            · rw [if_pos hm, List.map_append] at key
              simp (disch := first | rfl | assumption | omega | simp [*]) [hcut, el, hm]
              exact key
            · rw [if_neg hm, List.append_nil] at key
              simp (disch := first | rfl | assumption | omega | simp [*]) [hm]
              exact key
        · intro e h1
          rw [List.length_map] at h1
          obtain ⟨s8, h8, rfl⟩ := (hK _ _).mp h1
          rw [List.take_length, ← eA]
          exact (hJ _ _).mpr ⟨.va (.f (.d o.D)), s8, ⟨rfl, h8⟩, rfl⟩
    · intro e h1; rwa [List.length_map] at h1
  · obtain ⟨s7, s8, ⟨h7, h8⟩, rfl⟩ := (hJ _ _).mp he
    rw [List.take_length]
    generalize hOw : ownD f hs (allD h os) ch = ow at *
    generalize f * ((allD h os).length : Int) = at0 at *
    have hr1 : ixP (runD s op) (.int 1) = .ok (.d (.list s.letters)) := rfl
    have hco : vComp (vItL (toD (v2 ixP (frD (vCall S_run (aC (vVar 0) (aC (vVar 1) (aC (vVar 2) (aC (vVar 3) aN)))))) (toD (vC (.int 1)))))) (gN 10) (toT (vCmp .isin (toD (v2 ixP (vVarD 10) (toD (vC (.int 2))))) (vVarD 4))) (unO (vVar 10)) [10] [.va (.f (tbl p h f)), .va (.f (.d (opsD os))), .va (.f (.d (rowsP ins))), .va (.f (.d (lst ch))), .va (.f (.d (lst hs))), .va (SV.dl (ow.map .int)), .va (.f (.d (.int at0))), s7, s8, .no, .no] = .ok (SV.dl (seenL hs s.letters)) := by
      refine seen_comp rfl (by simp) (by omega) ?_ hLt rfl rfl
      simp (disch := first | rfl | assumption | omega | simp [*]) [hrun, hr1]
    refine rets_nx (e' := [.va (.f (tbl p h f)), .va (.f (.d (opsD os))), .va (.f (.d (rowsP ins))), .va (.f (.d (lst ch))), .va (.f (.d (lst hs))), .va (SV.dl (ow.map .int)), .va (.f (.d (.int at0))), s7, s8, .va (SV.dl (seenL hs s.letters)), .no]) ?_ ?_
    · rw [vSetO_ap, hco]
      simp
    · skip
      have hu2 := runO_inputs_used os ins hs hl (by omega) fun hd m => ⟨(hin hd m).1, by have := (hin hd m).2; have := io.len; omega⟩
      have hcl : (vCall S_inputs_used (aC (vVar 1) (aC (vVar 2) (aC (vVar 4) aN)))) [.va (.f (tbl p h f)), .va (.f (.d (opsD os))), .va (.f (.d (rowsP ins))), .va (.f (.d (lst ch))), .va (.f (.d (lst hs))), .va (SV.dl (ow.map .int)), .va (.f (.d (.int at0))), s7, s8, .va (SV.dl (seenL hs s.letters)), .no] = .ok (SV.dll (rowsD (usedRows os ins hs))) := by
        rw [vCall_raw]
        simp (disch := first | rfl | assumption | omega | simp [*]) [hu2]
      unfold vRetT3
      rw [hcl, ofR_ok]
      exact ⟨_, rfl⟩
end VL

set_option Elab.async false
set_option linter.all false
set_option maxRecDepth 100000
set_option maxHeartbeats 4000000
namespace VL
open PySem PySem.Spec PyProof.Rows L2

def lwE (p h f : Int) (os : List Op) (ch hs : List Int) (s4 s5 s6 s7 s8 : Slot) : Env := [.va (.f (tbl p h f)), .va (.f (.d (opsD os))), .va (.f (.d (lst ch))), .va (.f (.d (lst hs))), s4, s5, s6, s7, s8]
theorem own_hands (p h f : Int) (hh : 0 ≤ h ∧ h ≤ 7) (o : Op) (os : List Op) (ch hs : List Int) (s4 s5 s7 s8 : Slot) (h7 : free s7 = true) (D : ST) :
    (vSeq (vSet 7 (frO (vLst vNil)))
  (vSeq (vIfS (toT (vCmp .eq (toD (v2 ixP (vVarD 6) (toD (vC (.int 0))))) (toD (vC (.str "in"))))) (vSet 7 (frO (vLst (vCons (toD (v2 ixP (vVarD 6) (toD (vC (.int 1))))) vNil)))) vSkip)
  (vSeq (vIfS (toT (vCmp .isin (toD (v2 ixP (vVarD 6) (toD (vC (.int 0))))) (toD (vTup (vCons (toD (vC (.str "mul"))) (vCons (toD (vC (.str "anew"))) vNil)))))) (vSet 7 (frO (v2 lrg2 (toD (vC (.int 1))) (frD (v2 addV (toD (vFld "Table" "hands" (vVar 0))) (toD (vC (.int 1)))))))) vSkip) D)))
      (lwE p h f os ch hs s4 s5 (.va (.f (.d o.D))) s7 s8) = D (lwE p h f os ch hs s4 s5 (.va (.f (.d o.D))) (.va (.f (.d (lst (dealersM h o))))) s8) := by
  unfold lwE
  cases o <;> (unfold Op.D dealersM lst; simp (disch := first | rfl | assumption | omega | simp [*]) [ix2_0, ix2_1, ix3_0, ix3_1, ix3_2, in_w2, rngP_ints])
theorem run_lown (p h f : Int) (t : Tb p h f) (os : List Op) (ch hs : List Int) (hl : os.length ≤ 24) (sl : hs.length < 1000) (ce : (ch.length : Int) = needsM h f os) :
    run S__law_own [tbl p h f, .d (opsD os), .d (lst ch), .d (lst hs)] = .ok (.d (lst (ownD f hs (allD h os) ch))) := by
  have t3 := t.h3
  have t7 := t.h7
  have f1 := t.f1
  have f2 := t.f2
  have al := allD_len h f (by omega) os
  unfold S__law_own B__law_own
  rw [run_mk]
  refine step_nx (e' := lwE p h f os ch hs (.va (.f (.d (lst [])))) .no .no .no .no) (by unfold lwE; simp; rfl) ?_
  refine step_nx (e' := lwE p h f os ch hs (.va (.f (.d (lst [])))) (.va (.f (.d (.int 0)))) .no .no .no) (by unfold lwE; simp) ?_
  obtain ⟨I, hJ⟩ : ∃ I : Nat → Env → Prop, ∀ j e, I j e ↔ ∃ s6 s7 s8, (free s6 = true ∧ free s7 = true ∧ free s8 = true) ∧ e = lwE p h f os ch hs (.va (.f (.d (lst (ownD f hs (allD h (os.take j)) ch))))) (.va (.f (.d (.int (f * ((allD h (os.take j)).length : Int)))))) s6 s7 s8 := ⟨_, fun _ _ => Iff.rfl⟩
  refine step_wp (P := I os.length) ?_ fun e he => ?_
  · have hit : vItL (toD (vVar 1)) (lwE p h f os ch hs (.va (.f (.d (lst [])))) (.va (.f (.d (.int 0)))) .no .no .no) = .ok (os.map Op.D) := by
      unfold lwE opsD; simp
    rw [vFor_ap, hit, ofR_ok]
    refine wp_for I ((hJ _ _).mpr ⟨.no, .no, .no, ⟨rfl, rfl, rfl⟩, by simp [allD, ownD]⟩) ?_ ?_
    · intro j x e hx h1
      obtain ⟨s6, s7, s8, ⟨h6, h7, h8⟩, rfl⟩ := (hJ _ _).mp h1
      rw [List.getElem?_map] at hx
      cases ho : os[j]? with
      | none => rw [ho] at hx; cases hx
      | some o =>
        rw [ho] at hx
        cases hx
        have eA : allD h (os.take (j + 1)) = allD h (os.take j) ++ dealersM h o := by unfold allD; rw [take_succ' ho, List.flatMap_append]; simp
        have eB : allD h os = allD h (os.take j) ++ (dealersM h o ++ allD h (os.drop (j + 1))) := by
          rw [← List.append_assoc, ← eA]
          unfold allD
          rw [← List.flatMap_append, List.take_append_drop]
        generalize hA : allD h (os.take j) = A at *
        have oh := own_hands p h f ⟨by omega, by omega⟩ o os ch hs (.va (.f (.d (lst (ownD f hs A ch))))) (.va (.f (.d (.int (f * (A.length : Int)))))) s7 s8 h7
        generalize hD : dealersM h o = D at *
        have lB := congrArg List.length eB
        rw [List.length_append, List.length_append] at lB
        rw [gN_ap (t := s6) rfl h6, oW_some, show (lwE p h f os ch hs (.va (.f (.d (lst (ownD f hs A ch))))) (.va (.f (.d (.int (f * (A.length : Int)))))) s6 s7 s8).set 6 (.va (.f (.d o.D))) = lwE p h f os ch hs (.va (.f (.d (lst (ownD f hs A ch))))) (.va (.f (.d (.int (f * (A.length : Int)))))) (.va (.f (.d o.D))) s7 s8 from rfl, oh]
        obtain ⟨K, hK⟩ : ∃ K : Nat → Env → Prop, ∀ i e, K i e ↔ ∃ s8, (free s8 = true) ∧ e = lwE p h f os ch hs (.va (.f (.d (lst (ownD f hs (A ++ D.take i) ch))))) (.va (.f (.d (.int (f * ((A ++ D.take i).length : Int)))))) (.va (.f (.d o.D))) (.va (.f (.d (lst D)))) s8 := ⟨_, fun _ _ => Iff.rfl⟩
        have hit2 : vItL (toD (vVar 7)) (lwE p h f os ch hs (.va (.f (.d (lst (ownD f hs A ch))))) (.va (.f (.d (.int (f * (A.length : Int)))))) (.va (.f (.d o.D))) (.va (.f (.d (lst D)))) s8) = .ok (D.map .int) := by
          unfold lwE lst; simp
        rw [vFor_ap, hit2, ofR_ok]
        refine wp_for K ((hK _ _).mpr ⟨s8, h8, by simp⟩) ?_ ?_
        · intro i y e hy h1
          obtain ⟨s8, h8, rfl⟩ := (hK _ _).mp h1
          rw [List.getElem?_map] at hy
          cases hi : D[i]? with
          | none => rw [hi] at hy; cases hy
          | some d =>
            rw [hi] at hy
            cases hy
            have il := (List.getElem?_eq_some_iff.mp hi).1
            have eT : A ++ D.take (i + 1) = (A ++ D.take i) ++ [d] := by rw [take_succ' hi, List.append_assoc]
            have tl : (A ++ D.take i).length < (allD h os).length := by rw [List.length_append, List.length_take]; omega
            have oB := ownD_len f hs (A ++ D.take i) ch
            have oS := ownD_snoc f hs d (A ++ D.take i) ch
            clear oh
            generalize A ++ D.take i = B at *
            have hle : f * (B.length : Int) + f ≤ ch.length := by
              rw [ce, al]
              have : f * ((B.length : Int) + 1) ≤ f * ((allD h os).length : Int) := Int.mul_le_mul_of_nonneg_left (by omega) (by omega)
              rw [Int.mul_add, Int.mul_one] at this
              exact this
            have hnn : 0 ≤ f * (B.length : Int) := Int.mul_nonneg (by omega) (by omega)
            have etn : (f * (B.length : Int)).toNat = f.toNat * B.length := by rw [Int.toNat_mul (by omega) (by omega)]; rfl
            have hcut : cutP (ch.map PyData.int) (some (f * (B.length : Int))) (some (f * (B.length : Int) + f)) = ((ch.drop (f.toNat * B.length)).take f.toNat).map PyData.int := by
              rw [cut_mid _ (by omega) (by omega) (by rw [List.length_map]; omega), List.drop_take, etn, show (f * (B.length : Int) + f).toNat - f.toNat * B.length = f.toNat by omega, List.map_take, List.map_drop]
            have pl : ((ch.drop (f.toNat * B.length)).take f.toNat).length ≤ f.toNat := by rw [List.length_take]; omega
            have hf2 : f.toNat * B.length ≤ 10000 := by
              have : f.toNat * B.length ≤ ch.length := by omega
              have nb := needsM_big (h := h) (f := f) ⟨by omega, by omega⟩ ⟨by omega, by omega⟩ os
              omega
            have e6 : f * (B.length : Int) + f = f * (((B ++ [d]).length : Nat) : Int) := by rw [List.length_append]; simp; rw [Int.mul_add, Int.mul_one]
            rw [gN_ap (t := s8) rfl h8, oW_some]
            rw [show (lwE p h f os ch hs (.va (.f (.d (lst (ownD f hs B ch))))) (.va (.f (.d (.int (f * (B.length : Int)))))) (.va (.f (.d o.D))) (.va (.f (.d (lst D)))) s8).set 8 (.va (.f (.d (.int d)))) = lwE p h f os ch hs (.va (.f (.d (lst (ownD f hs B ch))))) (.va (.f (.d (.int (f * (B.length : Int)))))) (.va (.f (.d o.D))) (.va (.f (.d (lst D)))) (.va (.f (.d (.int d)))) from rfl]
            have key : (K (i + 1)) (lwE p h f os ch hs (.va (.f (.d (lst (ownD f hs B ch ++ (if d ∈ hs then (ch.drop (f.toNat * B.length)).take f.toNat else [])))))) (.va (.f (.d (.int (f * (B.length : Int) + f))))) (.va (.f (.d o.D))) (.va (.f (.d (lst D)))) (.va (.f (.d (.int d))))) := by
              refine (hK _ _).mpr ⟨.va (.f (.d (.int d))), rfl, ?_⟩
              rw [eT, oS, e6]
            clear oS eT e6 eB lB
            generalize (ch.drop (f.toNat * B.length)).take f.toNat = pc at *
            generalize ownD f hs B ch = ow at *
            generalize f * (B.length : Int) = at0 at *
            have la : (ow.map PyData.int).length + (pc.map PyData.int).length ≤ 16777216 := by rw [List.length_map, List.length_map]; omega
            have la2 : ow.length + pc.length ≤ 16777216 := by omega
            unfold lwE lst at *
            by_cases hm : d ∈ hs
            · rw [if_pos hm, List.map_append] at key
              simp (disch := first | rfl | assumption | omega | simp [*]) [hcut, hm]
              exact key
            · rw [if_neg hm, List.append_nil] at key
              simp (disch := first | rfl | assumption | omega | simp [*]) [hm]
              exact key
        · intro e h1
          rw [List.length_map] at h1
          obtain ⟨s8, h8, rfl⟩ := (hK _ _).mp h1
          rw [List.take_length, ← eA]
          exact (hJ _ _).mpr ⟨.va (.f (.d o.D)), .va (.f (.d (lst D))), s8, ⟨rfl, rfl, h8⟩, rfl⟩
    · intro e h1; rwa [List.length_map] at h1
  · obtain ⟨s6, s7, s8, ⟨h6, h7, h8⟩, rfl⟩ := (hJ _ _).mp he
    rw [List.take_length]
    unfold lwE
    simp
end VL

set_option Elab.async false
set_option linter.all false
set_option maxRecDepth 100000
set_option maxHeartbeats 4000000
namespace VL
open PySem PySem.Spec PyProof.Rows L2

def sawT (U : List (List Int)) (O : List Int) (L : List PyData) : SV := .otup [SV.dll (rowsD U), SV.dl (O.map .int), SV.dl L]
def sawD (U : List (List Int)) (O : List Int) (L : List PyData) : PyData := .tuple [rowsP U, lst O, .list L]
theorem frz_sawT (U : List (List Int)) (O : List Int) (L : List PyData) : (sawT U O L).frz? = some (.d (sawD U O L)) := by
  have a := frF_dll (rowsD U)
  have b := frF_dl (O.map PyData.int)
  have c := frF_dl L
  rw [rowsD_list] at a
  have za : (SV.dll (rowsD U)).frz = some (rowsP U) := by
    have := frz_frF (SV.dll (rowsD U))
    rw [a] at this
    cases z : (SV.dll (rowsD U)).frz with
    | none => rw [z] at this; cases this
    | some x => rw [z] at this; cases this; rfl
  have zb : (SV.dl (O.map PyData.int)).frz = some (lst O) := by
    have := frz_frF (SV.dl (O.map PyData.int))
    rw [b] at this
    cases z : (SV.dl (O.map PyData.int)).frz with
    | none => rw [z] at this; cases this
    | some x => rw [z] at this; cases this; rfl
  have zc : (SV.dl L).frz = some (.list L) := by
    have := frz_frF (SV.dl L)
    rw [c] at this
    cases z : (SV.dl L).frz with
    | none => rw [z] at this; cases this
    | some x => rw [z] at this; cases this; rfl
  show (SV.frzs [SV.dll (rowsD U), SV.dl (O.map .int), SV.dl L]).map (fun ps => FV.d (PyData.tuple ps)) = _
  unfold SV.frzs SV.frzs SV.frzs SV.frzs
  rw [za, zb, zc]
  rfl
theorem frF_sawT (U : List (List Int)) (O : List Int) (L : List PyData) : frF (sawT U O L) = .ok (.d (sawD U O L)) := by
  unfold frF
  rw [frz_sawT]
theorem tmp_va {e : Env} {i : Nat} {s : SV} {x : FV} (h : e[i]? = some (.va s)) (hf : s.frz? = some x) (F : FT) : vTmpT i [] F e = F (e.set i (.va (.f x))) := by
  unfold vTmpT frzE
  rw [tree_va h]
  simp [subS, updS, hf, Kind.mk]
theorem zipP_self : ∀ a : List PyData, zipP a a = a.map fun x => .tuple [x, x]
  | [] => rfl
  | x :: a => by
    show PyData.tuple [x, x] :: zipP a a = _
    rw [zipP_self a]; rfl
theorem seen_comp2 {it : IT} {e : Env} {hs : List Int} {ls : List PyData} {i j : Nat} (hij : j ≠ i) (h4 : e[i]? = some (.va (.f (.d (lst hs))))) (h10 : j < e.length) (hl : ls.length ≤ 16777216) (hi : it e = .ok ls) (hL : ∀ l ∈ ls, IsLt l) (hw : wipeE e [j] = e) (hn : e[j]? = some .no) :
    vComp it (gN j) (toT (vCmp .isin (toD (v2 ixP (vVarD j) (toD (vC (.int 2))))) (vVarD i))) (unO (vVar j)) [j] e = .ok (SV.dl (seenL hs ls)) := by
  have := compL_lst (g := gN j) (t := toT (vCmp .isin (toD (v2 ixP (vVarD j) (toD (vC (.int 2))))) (vVarD i))) (elt := unO (vVar j)) (e := e) (id : PyData → PyData) (fun l => decide (lto l ∈ hs)) (fun l => .f (.d l)) (L := ls) fun l m => by
    obtain ⟨a, b, c, d, rfl⟩ := hL l m
    refine ⟨_, gN_ap (t := .no) hn rfl, ?_, fun _ => ?_⟩
    · have h4' : (e.set j (.va (.f (.d (id (.tuple [.int a, .int b, .int c, .int d]))))))[i]? = some (.va (.f (.d (.list (hs.map .int))))) := by rw [List.getElem?_set_ne hij]; exact h4
      have h10' : (e.set j (.va (.f (.d (id (.tuple [.int a, .int b, .int c, .int d]))))))[j]? = some (.va (.f (.d (.tuple [.int a, .int b, .int c, .int d])))) := by rw [List.getElem?_set_self h10]; rfl
      generalize (e.set j (.va (.f (.d (id (.tuple [.int a, .int b, .int c, .int d])))))) = e' at *
      have i2 : ixP (.tuple [.int a, .int b, .int c, .int d]) (.int 2) = .ok (.d (.int c)) := rfl
      simp (disch := first | rfl | assumption | omega | simp [*]) [i2, lto, h4', h10']
      exact decide_eq_decide.mpr Iff.rfl
    · have h10' : (e.set j (.va (.f (.d (id (.tuple [.int a, .int b, .int c, .int d]))))))[j]? = some (.va (.f (.d (.tuple [.int a, .int b, .int c, .int d])))) := by rw [List.getElem?_set_self h10]; rfl
      generalize (e.set j (.va (.f (.d (id (.tuple [.int a, .int b, .int c, .int d])))))) = e' at *
      simp (disch := first | rfl | assumption | omega | simp [*]) [h10']
  rw [vComp_ap, hi, bind_ok, cIf_pos hl, hw]
  rw [List.map_id] at this
  rw [this, bind_ok]
  have z := map_dl (seenL hs ls) id
  rw [List.map_id] at z
  rw [← z]
  rfl
def e15 (ns : List Int) (p h f : Int) (s2 s3 s4 s5 s6 s7 s8 s9 : Slot) : Env := [.va (.f (.sc ns)), .va (.f (tbl p h f)), s2, s3, s4, s5, s6, s7, s8, s9, .no, .no, .no, .no, .no]
theorem some_comp (ns : List Int) (p h f : Int) (t : Tb p h f) (s2 s3 s4 : Slot) {hs : List Int} (hhs : hs = ((List.range h.toNat).map fun (k : Nat) => 1 + (k : Int)).filter fun x => decide (mixM (cellAt ns 4) x 3 = 0)) :
    (vComp (v2 rng2 (toD (vC (.int 1))) (frD (v2 addV (toD (vFld "Table" "hands" (vVar 1))) (toD (vC (.int 1)))))) (gN 10) (toT (vCmp .eq (frD (vCall S__law_mix (aC (frO (vCall S__law_cell_at (aC (vVar 0) (aC (vC (.int 4)) aN)))) (aC (vVar 10) (aC (vC (.int 3)) aN))))) (toD (vC (.int 0))))) (unO (vVar 10)) [10]) (e15 ns p h f s2 s3 s4 .no .no .no .no .no) = .ok (SV.dl (hs.map .int)) := by
  have t3 := t.h3
  have t7 := t.h7
  rw [comp_lstT ((List.range h.toNat).map fun (k : Nat) => 1 + (k : Int)) .int (fun x => decide (mixM (cellAt ns 4) x 3 = 0)) (fun x => .f (.d (.int x)))]
  · rw [← hhs, map_dl]
  · unfold e15
    simp (disch := first | rfl | assumption | omega | simp [*]) [rngP_ints]
  · simp; omega
  · intro x _
    have hm := run_mix (cellAt ns 4) x 3 (by omega)
    refine ⟨_, gN_ap (t := .no) rfl rfl, ?_, fun _ => ?_⟩
    · generalize mixM (cellAt ns 4) x 3 = y at *
      unfold e15
      simp (disch := first | rfl | assumption | omega | simp [*]) [hm]
    · unfold e15
      simp
theorem due_comp (ns : List Int) (p h f : Int) (os : List Op) (ins : List (List Int)) (hs : List Int) (s4 s6 s7 : Slot) (hl : os.length < 1000) (sl : hs.length < 1000) (hr : ∀ hd ∈ hs, 1 ≤ hd ∧ hd ≤ ins.length) :
    vComp (vItL (vVarD 5)) (gN 10) vYes (vSl (toD (v2 ixP (vVarD 3) (toD (v2 subI (vVarD 10) (toD (vC (.int 1))))))) vNoPart (vPart (frD (vCall S__law_used (aC (vVar 2) (aC (vVar 10) aN)))))) [10] (e15 ns p h f (.va (.f (.d (opsD os)))) (.va (.f (.d (rowsP ins)))) s4 (.va (.f (.d (lst hs)))) s6 s7 .no .no) = .ok (SV.dll (rowsD (usedRows os ins hs))) := by
  rw [comp_lstT hs .int (fun _ => true) (fun hd => SV.dl (((ins.getD (hd - 1).toNat []).take (usedM os hd)).map .int))]
  · rw [List.filter_eq_self.mpr (fun _ _ => rfl), ← rows_tree]
    unfold usedRows
    rw [List.map_map]
    rfl
  · unfold e15 lst; simp
  · omega
  · intro hd m
    have r := hr hd m
    have hu := run_lused os hd hl
    have hix : ixP (rowsP ins) (.int (hd - 1)) = .ok (.d (.list ((ins.getD (hd - 1).toNat []).map .int))) := by
      unfold rowsP
      have hk : (hd - 1).toNat < ins.length := by omega
      rw [ixP_l, atI_pos (by omega), List.getElem?_map, List.getD_eq_getElem?_getD, List.getElem?_eq_getElem hk]
      rfl
    have ct := cut_to ((ins.getD (hd - 1).toNat []).map PyData.int) (b := usedM os hd) (by omega)
    rw [show ((usedM os hd : Nat) : Int).toNat = usedM os hd by omega, ← List.map_take] at ct
    generalize ins.getD (hd - 1).toNat [] = row at *
    refine ⟨_, gN_ap (t := .no) rfl rfl, rfl, fun _ => ?_⟩
    unfold e15
    simp (disch := first | rfl | assumption | omega | simp [*]) [hu, hix, ct]
end VL

set_option Elab.async false
set_option linter.all false
set_option maxRecDepth 100000
set_option maxHeartbeats 4000000
namespace VL
open PySem PySem.Spec PyProof.Rows L2

theorem rows_in {U : List (List Int)} {E : Env} {F : FP} (h7 : (toD F) E = .ok (rowsP U)) (h8 : (vVarD 8) E = .ok (rowsP U)) (hl : U.length < 1000) (h12 : ∀ x : PyData, (gT 2 (gsC (gN 12) (gsC (gN 13) gsN))) (.tuple [x, x]) (wipeE E [12, 13]) = some ((E.set 12 (.va (.f (.d x)))).set 13 (.va (.f (.d x))))) (hE : 13 < E.length) :
    (vComp (vItZip (toD F) (vVarD 8)) (gT 2 (gsC (gN 12) (gsC (gN 13) gsN))) vYes (vCall S__law_row (aC (vVar 12) (aC (vVar 13) aN))) [12, 13] E).bind frF = .ok (.d (allT U.length)) := by
  have := comp_true (it := vItZip (toD F) (vVarD 8)) (g := gT 2 (gsC (gN 12) (gsC (gN 13) gsN))) (elt := vCall S__law_row (aC (vVar 12) (aC (vVar 13) aN))) (vs := [12, 13]) (e := E) (items := (U.map fun r => PyData.list (r.map .int)).map fun x => .tuple [x, x]) ?_ (by simp; omega) fun x m => ?_
  · rw [this, List.length_map, List.length_map]
  · rw [← zipP_self]
    unfold vItZip
    rw [v2_ap, h7, h8]
    unfold rowsP
    simp
  · obtain ⟨y, my, rfl⟩ := List.mem_map.mp m
    obtain ⟨r, _, rfl⟩ := List.mem_map.mp my
    refine ⟨_, h12 _, ?_⟩
    have e12 : ((E.set 12 (.va (.f (.d (.list (r.map .int)))))).set 13 (.va (.f (.d (.list (r.map .int))))))[12]? = some (.va (.f (.d (.list (r.map .int))))) := by rw [List.getElem?_set_ne (by omega), List.getElem?_set_self (by omega)]
    have e13 : ((E.set 12 (.va (.f (.d (.list (r.map .int)))))).set 13 (.va (.f (.d (.list (r.map .int))))))[13]? = some (.va (.f (.d (.list (r.map .int))))) := by rw [List.getElem?_set_self (by rw [List.length_set]; omega)]
    generalize (E.set 12 (.va (.f (.d (.list (r.map .int)))))).set 13 (.va (.f (.d (.list (r.map .int))))) = E2 at *
    simp (disch := first | rfl | assumption | omega | simp [*]) [e12, e13]
theorem run_law15 (ns : List Int) : run S_law_v14 [.sc ns] = .ok (.d (.bool true)) := by
  unfold S_law_v14 B_law_v14
  rw [run_mk]
  have t := tab_ok (cellAt ns 0)
  have tp := t.pos
  have t3 := t.h3
  have t7 := t.h7
  have thp := t.hp
  have f1 := t.f1
  have f2 := t.f2
  have fh := t.fh
  have hb := run_table_by (cellAt ns 0)
  generalize tabP (cellAt ns 0) = p at *
  generalize tabH (cellAt ns 0) = h at *
  generalize tabF (cellAt ns 0) = f at *
  have q0 := Int.emod_nonneg (cellAt ns 1) (show (10 : Int) ≠ 0 by omega)
  have q1 := Int.emod_lt_of_pos (cellAt ns 1) (show (0 : Int) < 10 by omega)
  have hst := run_steps_by ns 6 (1 + cellAt ns 1 % 10) p h f (by omega) (by omega) (by omega) (by omega) (by omega)
  have ol := opsBy_length ns 6 (1 + cellAt ns 1 % 10) p h
  have oo := opsBy_ok ns 6 (1 + cellAt ns 1 % 10) p h (by omega) (by omega)
  have hR := opsBy_right ns 6 (1 + cellAt ns 1 % 10) p h (by omega) (by omega) (by omega)
  generalize opsBy ns 6 (1 + cellAt ns 1 % 10) p h = os at *
  have hin := run_inputs_by (cellAt ns 2) p h f os (by omega) (by omega) (by omega)
  have io := insBy_ok (cellAt ns 2) os p h (by omega) (by omega)
  have il := insBy_len (cellAt ns 2) os p h (by omega)
  have ir := insBy_rows (cellAt ns 2) os p h (by omega)
  generalize insBy (cellAt ns 2) os p h = ins at *
  have hI := inOk_of io
  have hch := run_chance_by (cellAt ns 3) p h f os (by omega) (by omega) (by omega) (by omega)
  have cl := chanceM_length (cellAt ns 3) os p h f
  have rc := chanceM_rng (cellAt ns 3) os p h f (by omega)
  generalize chanceM (cellAt ns 3) os p h f = ch at *
  have n0 := needsM_nn (h := h) (f := f) (by omega) (by omega) os
  have n1 := needsM_big (h := h) (f := f) (by omega) (by omega) os
  have ce : (ch.length : Int) = needsM h f os := by omega
  have hC := chOk_iff.mpr ⟨ce, rc⟩
  obtain ⟨W, w⟩ := wt_ex t
  obtain ⟨hs, hhs⟩ : ∃ hs : List Int, hs = ((List.range h.toNat).map fun (k : Nat) => 1 + (k : Int)).filter fun x => decide (mixM (cellAt ns 4) x 3 = 0) := ⟨_, rfl⟩
  have hok : hsOk h hs = true := by
    refine okFrom_of h hs 0 ?_ fun a m => ?_
    · rw [hhs]
      refine List.Pairwise.filter _ ?_
      rw [List.pairwise_map]
      exact List.pairwise_lt_range.imp fun h => by omega
    · rw [hhs] at m
      obtain ⟨k, hk, rfl⟩ := List.mem_map.mp (List.mem_filter.mp m).1
      have := List.mem_range.mp hk
      omega
  have hlen := hs_len (by omega) hok
  have hin2 := (hs_in hok).2
  have hcs := fun s2 s3 s4 => some_comp ns p h f t s2 s3 s4 hhs
  clear hhs
  have li := io.len
  have hr2 : ∀ hd ∈ hs, 1 ≤ hd ∧ hd ≤ ins.length := fun hd m => ⟨(hin2 hd m).1, by have := (hin2 hd m).2; omega⟩
  have hsn := runO_seenT p h f t w os ins ch hs (by omega) (by omega) (fun r m => by have := ir r m; omega) (by omega) hR hI hC hok
  have hrun := run_run p h f t w.run w.len w.rng os ins ch (by omega) (by omega) (fun r m => by have := ir r m; omega) (by omega)
  rw [if_pos hR, if_pos hI, if_pos hC] at hrun
  have hown := run_lown p h f t os ch hs (by omega) (by omega) ce
  have hdue := fun s4 s6 s7 => due_comp ns p h f os ins hs s4 s6 s7 (by omega) (by omega) hr2
  have hLt := deskI_lt p h f W ins ch os os.length
  have dk := dsk_all (ch := ch) (f := f) (W := W) ⟨by omega, by omega⟩ ⟨by omega, by omega⟩ oo io (by omega) w.len w.rng os.length (Nat.le_refl _)
  have ltl := dk.lt
  clear dk
  generalize deskI p h f W ins ch os os.length = s at *
  generalize openI p h f W ins ch os os.length = op at *
  have ow := ownD_len f hs (allD h os) ch
  have ul : (usedRows os ins hs).length < 1000 := by unfold usedRows; rw [List.length_map]; omega
  have fL : fit 3 (.list (seenL hs s.letters)) = true := by
    show (seenL hs s.letters).all (fit 2) = true
    rw [List.all_eq_true]
    intro l m
    exact fit_up 1 l (fit_lt (hLt l (List.mem_filter.mp m).1))
  have sLl : (seenL hs s.letters).length ≤ s.letters.length := List.length_filter_le _ _
  have hco := fun (E : Env) (h4 : E[5]? = some (.va (.f (.d (lst hs))))) (h10 : 14 < E.length) (it : IT) (hi : it E = .ok s.letters) (hw : wipeE E [14] = E) (hn : E[14]? = some .no) => seen_comp2 (i := 5) (j := 14) (by omega) h4 h10 (by omega) hi hLt hw hn
  have al := allD_len h f (by omega) os
  have hf2 : f.toNat * (allD h os).length ≤ 100000 := by
    have : ((f.toNat * (allD h os).length : Nat) : Int) = f * ((allD h os).length : Int) := by rw [Int.natCast_mul, Int.toNat_of_nonneg (by omega)]
    omega
  generalize hU : usedRows os ins hs = U at *
  generalize hO : ownD f hs (allD h os) ch = O at *
  generalize hLL : seenL hs s.letters = L at *
  have T0 : SV.otup [SV.dll (rowsD U), SV.dl (O.map .int), SV.dl L] = sawT U O L := rfl
  rw [T0] at hsn
  have e1 : ∀ r : List Int, listP (lst r) = .ok (SV.dl (r.map .int)) := fun _ => rfl
  have z3 : ∀ r : List Int, frF (SV.dl (r.map .int)) = .ok (.d (lst r)) := fun _ => frF_dl _
  have zr : ∀ r : List (List Int), frF (SV.dll (rowsD r)) = .ok (.d (rowsP r)) := fun r => by rw [frF_dll, rowsD_list]
  refine step_nx (e' := e15 ns p h f .no .no .no .no .no .no .no .no) (by unfold e15; simp (disch := first | rfl | assumption | omega | simp [*]) [hb]) ?_
  refine step_nx (e' := e15 ns p h f (.va (.f (.d (opsD os)))) .no .no .no .no .no .no .no) (by unfold e15; simp (disch := first | rfl | assumption | omega | simp [*]) [hst]) ?_
  refine step_nx (e' := e15 ns p h f (.va (.f (.d (opsD os)))) (.va (.f (.d (rowsP ins)))) .no .no .no .no .no .no) (by unfold e15; simp (disch := first | rfl | assumption | omega | simp [*]) [hin]) ?_
  refine step_nx (e' := e15 ns p h f (.va (.f (.d (opsD os)))) (.va (.f (.d (rowsP ins)))) (.va (.f (.d (lst ch)))) .no .no .no .no .no) (by unfold e15; simp (disch := first | rfl | assumption | omega | simp [*]) [hch]) ?_
  refine step_nx (e' := e15 ns p h f (.va (.f (.d (opsD os)))) (.va (.f (.d (rowsP ins)))) (.va (.f (.d (lst ch)))) (.va (.f (.d (lst hs)))) .no .no .no .no) ?_ ?_
  · rw [vSet_ap, frO_ap, hcs, bind_ok, z3]
    rfl
  have hdue := hdue (.va (.f (.d (lst ch))))
  refine step_nx (e' := e15 ns p h f (.va (.f (.d (opsD os)))) (.va (.f (.d (rowsP ins)))) (.va (.f (.d (lst ch)))) (.va (.f (.d (lst hs)))) (.va (.f (.d (.list [rowsP ins, lst ch, lst hs])))) .no .no .no) ?_ ?_
  · have c1 := lists_comp (it := vItL (vVarD 3)) (e := e15 ns p h f (.va (.f (.d (opsD os)))) (.va (.f (.d (rowsP ins)))) (.va (.f (.d (lst ch)))) (.va (.f (.d (lst hs)))) .no .no .no .no) (j := 11) ins (by unfold e15; simp [rowsP]) (by omega) (by unfold e15; simp)
    unfold e15 at c1 ⊢
    simp (disch := first | rfl | assumption | omega | simp [*]) [c1, zr, e1, z3]
  have g0 : ∀ x y z : PyData, ixP (.list [x, y, z]) (.int 0) = .ok (.d x) := fun _ _ _ => rfl
  have g1 : ∀ x y z : PyData, ixP (.list [x, y, z]) (.int 1) = .ok (.d y) := fun _ _ _ => rfl
  have g2 : ∀ x y z : PyData, ixP (.list [x, y, z]) (.int 2) = .ok (.d z) := fun _ _ _ => rfl
  have k0 : ixP (sawD U O L) (.int 0) = .ok (.d (rowsP U)) := rfl
  have k1 : ixP (sawD U O L) (.int 1) = .ok (.d (lst O)) := rfl
  have k2 : ixP (sawD U O L) (.int 2) = .ok (.d (.list L)) := rfl
  have ktup : isI .tuple (sawD U O L) = true := rfl
  have klen : lenP (sawD U O L) = .ok (.d (.int 3)) := rfl
  have fh3 : fit 4 (.list [rowsP ins, lst ch, lst hs]) = true := by
    show ([rowsP ins, lst ch, lst hs].all (fit 3)) = true
    simp only [List.all_cons, List.all_nil, Bool.and_true, Bool.and_eq_true]
    exact ⟨fit_rows _, fit_lst 2 _, fit_lst 2 _⟩
  have ne3 : Cop.h .ne (.list [rowsP ins, lst ch, lst hs]) (.list [rowsP ins, lst ch, lst hs]) = .ok (.d (.bool false)) := by rw [cop_ne 4 fh3 fh3]; simp
  have neL : Cop.h .ne (.list L) (.list L) = .ok (.d (.bool false)) := by rw [cop_ne 3 fL fL]; simp
  have eqL : Cop.h .eq (.list L) (.list L) = .ok (.d (.bool true)) := by rw [cop_eq 3 fL fL]; simp
  have isr : isI .list (rowsP U) = true := rfl
  have isL : isI .list (.list L) = true := rfl
  have lnr : lenP (rowsP U) = .ok (.d (.int U.length)) := by unfold rowsP; rw [lenP_l, List.length_map]
  refine step_nx (e' := e15 ns p h f (.va (.f (.d (opsD os)))) (.va (.f (.d (rowsP ins)))) (.va (.f (.d (lst ch)))) (.va (.f (.d (lst hs)))) (.va (.f (.d (.list [rowsP ins, lst ch, lst hs])))) (.va (sawT U O L)) .no .no) ?_ ?_
  · rw [vSetO_ap, vCall_raw]
    unfold e15
    simp (disch := first | rfl | assumption | omega | simp [*]) [g0, g1, g2, hsn]
  have tmp : ∀ (s8 s9 : Slot) (F : FT), vTmpT 7 [] F (e15 ns p h f (.va (.f (.d (opsD os)))) (.va (.f (.d (rowsP ins)))) (.va (.f (.d (lst ch)))) (.va (.f (.d (lst hs)))) (.va (.f (.d (.list [rowsP ins, lst ch, lst hs])))) (.va (sawT U O L)) s8 s9) = F (e15 ns p h f (.va (.f (.d (opsD os)))) (.va (.f (.d (rowsP ins)))) (.va (.f (.d (lst ch)))) (.va (.f (.d (lst hs)))) (.va (.f (.d (.list [rowsP ins, lst ch, lst hs])))) (.va (.f (.d (sawD U O L)))) s8 s9) := fun s8 s9 F => by
    rw [tmp_va (s := sawT U O L) rfl (frz_sawT U O L)]
    rfl
  refine step_nx (e' := e15 ns p h f (.va (.f (.d (opsD os)))) (.va (.f (.d (rowsP ins)))) (.va (.f (.d (lst ch)))) (.va (.f (.d (lst hs)))) (.va (.f (.d (.list [rowsP ins, lst ch, lst hs])))) (.va (sawT U O L)) .no .no) ?_ ?_
  · rw [vIfS_ap, tmp]
    unfold e15
    simp (disch := first | rfl | assumption | omega | simp [*]) [ne3, ktup, klen]
  refine step_nx (e' := e15 ns p h f (.va (.f (.d (opsD os)))) (.va (.f (.d (rowsP ins)))) (.va (.f (.d (lst ch)))) (.va (.f (.d (lst hs)))) (.va (.f (.d (.list [rowsP ins, lst ch, lst hs])))) (.va (sawT U O L)) (.va (.f (.d (rowsP U)))) .no) ?_ ?_
  · rw [vSet_ap, frO_ap, hdue, bind_ok, zr]
    rfl
  refine step_nx (e' := e15 ns p h f (.va (.f (.d (opsD os)))) (.va (.f (.d (rowsP ins)))) (.va (.f (.d (lst ch)))) (.va (.f (.d (lst hs)))) (.va (.f (.d (.list [rowsP ins, lst ch, lst hs])))) (.va (sawT U O L)) (.va (.f (.d (rowsP U)))) .no) ?_ ?_
  · rw [vIfS_ap, tmp]
    unfold e15
    simp (disch := first | rfl | assumption | omega | simp [*]) [k0, isr, lnr]
  refine step_nx (e' := e15 ns p h f (.va (.f (.d (opsD os)))) (.va (.f (.d (rowsP ins)))) (.va (.f (.d (lst ch)))) (.va (.f (.d (lst hs)))) (.va (.f (.d (.list [rowsP ins, lst ch, lst hs])))) (.va (sawT U O L)) (.va (.f (.d (rowsP U)))) .no) ?_ ?_
  · rw [vIfS_ap, tmp]
    have hal := rows_in (U := U) (E := e15 ns p h f (.va (.f (.d (opsD os)))) (.va (.f (.d (rowsP ins)))) (.va (.f (.d (lst ch)))) (.va (.f (.d (lst hs)))) (.va (.f (.d (.list [rowsP ins, lst ch, lst hs])))) (.va (.f (.d (sawD U O L)))) (.va (.f (.d (rowsP U)))) .no) (F := v2 ixP (vVarD 7) (toD (vC (.int 0)))) (by unfold e15; simp [k0]) (by unfold e15; simp) ul (fun x => by unfold e15; simp) (by unfold e15; simp)
    rw [vNotT_ap, toT_ap, v1_ap, frD_ap, hal]
    simp
  refine step_nx (e' := e15 ns p h f (.va (.f (.d (opsD os)))) (.va (.f (.d (rowsP ins)))) (.va (.f (.d (lst ch)))) (.va (.f (.d (lst hs)))) (.va (.f (.d (.list [rowsP ins, lst ch, lst hs])))) (.va (sawT U O L)) (.va (.f (.d (rowsP U)))) .no) ?_ ?_
  · rw [vIfS_ap, tmp]
    have hrow := run_row O
    rw [show PyData.list (O.map .int) = lst O from rfl] at hrow
    unfold e15
    simp (disch := first | rfl | assumption | omega | simp [*]) [k1, k2, isL, hown, hrow]
  refine step_nx (e' := e15 ns p h f (.va (.f (.d (opsD os)))) (.va (.f (.d (rowsP ins)))) (.va (.f (.d (lst ch)))) (.va (.f (.d (lst hs)))) (.va (.f (.d (.list [rowsP ins, lst ch, lst hs])))) (.va (sawT U O L)) (.va (.f (.d (rowsP U)))) (.va (.f (.d (.list L))))) ?_ ?_
  · have hr1 : ixP (runD s op) (.int 1) = .ok (.d (.list s.letters)) := rfl
    rw [vSet_ap, frO_ap, hco _ rfl (by unfold e15; simp) _ (by unfold e15; simp (disch := first | rfl | assumption | omega | simp [*]) [hrun, hr1]) rfl rfl, bind_ok, frF_dl]
    rfl
  refine step_nx (e' := e15 ns p h f (.va (.f (.d (opsD os)))) (.va (.f (.d (rowsP ins)))) (.va (.f (.d (lst ch)))) (.va (.f (.d (lst hs)))) (.va (.f (.d (.list [rowsP ins, lst ch, lst hs])))) (.va (sawT U O L)) (.va (.f (.d (rowsP U)))) (.va (.f (.d (.list L))))) ?_ ?_
  · rw [vIfS_ap, tmp]
    unfold e15
    simp (disch := first | rfl | assumption | omega | simp [*]) [k2, neL]
  have ap1 : ∀ (xs ys : List SV) (a b : SV) (z : SV) (e : Env), e[7]? = some (.va (.otup [a, .own xs, b])) → xs.length < 16777216 → vApp1 e (7, [.ix 1], .own xs) z = .ok (.f (.d .none)) ((e.map dv).set 7 (.va (.otup [a, .own (xs ++ [z]), b]))) := fun xs ys a b z e he hx => by
    unfold vApp1
    dsimp only
    rw [cIf_pos hx]
    unfold putP
    rw [tree_va he]
    rfl
  have ap2 : ∀ (xs ys : List SV) (a b : SV) (z : SV) (e : Env), e[7]? = some (.va (.otup [a, b, .own xs])) → xs.length < 16777216 → vApp1 e (7, [.ix 2], .own xs) z = .ok (.f (.d .none)) ((e.map dv).set 7 (.va (.otup [a, b, .own (xs ++ [z])]))) := fun xs ys a b z e he hx => by
    unfold vApp1
    dsimp only
    rw [cIf_pos hx]
    unfold putP
    rw [tree_va he]
    rfl
  refine step_nx (e' := e15 ns p h f (.va (.f (.d (opsD os)))) (.va (.f (.d (rowsP ins)))) (.va (.f (.d (lst ch)))) (.va (.f (.d (lst hs)))) (.va (.f (.d (.list [rowsP ins, lst ch, lst hs])))) (.va (sawT U (O ++ [1]) L)) (.va (.f (.d (rowsP U)))) (.va (.f (.d (.list L))))) ?_ ?_
  · rw [vEx_ap, vApp_ap]
    have e2 : ((plX (plN 7) (toD (vC (.int 1)))) (e15 ns p h f (.va (.f (.d (opsD os)))) (.va (.f (.d (rowsP ins)))) (.va (.f (.d (lst ch)))) (.va (.f (.d (lst hs)))) (.va (.f (.d (.list [rowsP ins, lst ch, lst hs])))) (.va (sawT U O L)) (.va (.f (.d (rowsP U)))) (.va (.f (.d (.list L)))))).bind lstP = .ok (7, [.ix 1], SV.own ((O.map PyData.int).map fun p => SV.f (.d p))) := rfl
    rw [e2, oR_ok, show unO (vC (.int 1)) _ = .ok (.f (.d (.int 1))) from rfl, oR_ok, ap1 _ [] (SV.dll (rowsD U)) (SV.dl L) _ _ rfl (by simp; omega)]
    rw [ofO_ok]
    unfold sawT
    rw [List.map_append]
    unfold SV.dl
    rw [List.map_append]
    rfl
  refine step_nx (e' := e15 ns p h f (.va (.f (.d (opsD os)))) (.va (.f (.d (rowsP ins)))) (.va (.f (.d (lst ch)))) (.va (.f (.d (lst hs)))) (.va (.f (.d (.list [rowsP ins, lst ch, lst hs])))) (.va (sawT U (O ++ [1]) (L ++ [.tuple [.int 0, .int 0, .int 0, .int 0]]))) (.va (.f (.d (rowsP U)))) (.va (.f (.d (.list L))))) ?_ ?_
  · rw [vEx_ap, vApp_ap]
    have e2 : ((plX (plN 7) (toD (vC (.int 2)))) (e15 ns p h f (.va (.f (.d (opsD os)))) (.va (.f (.d (rowsP ins)))) (.va (.f (.d (lst ch)))) (.va (.f (.d (lst hs)))) (.va (.f (.d (.list [rowsP ins, lst ch, lst hs])))) (.va (sawT U (O ++ [1]) L)) (.va (.f (.d (rowsP U)))) (.va (.f (.d (.list L)))))).bind lstP = .ok (7, [.ix 2], SV.own (L.map fun p => SV.f (.d p))) := rfl
    rw [e2, oR_ok]
    have e3 : (unO (vTup (vCons (toD (vC (.int 0))) (vCons (toD (vC (.int 0))) (vCons (toD (vC (.int 0))) (vCons (toD (vC (.int 0))) vNil)))))) (e15 ns p h f (.va (.f (.d (opsD os)))) (.va (.f (.d (rowsP ins)))) (.va (.f (.d (lst ch)))) (.va (.f (.d (lst hs)))) (.va (.f (.d (.list [rowsP ins, lst ch, lst hs])))) (.va (sawT U (O ++ [1]) L)) (.va (.f (.d (rowsP U)))) (.va (.f (.d (.list L))))) = .ok (.f (.d (.tuple [.int 0, .int 0, .int 0, .int 0]))) := by simp
    rw [e3, oR_ok, ap2 _ [] (SV.dll (rowsD U)) (SV.dl ((O ++ [1]).map .int)) _ _ rfl (by simp; omega)]
    rw [ofO_ok]
    unfold sawT
    unfold SV.dl
    simp only [List.map_append]
    rfl
  have hfin := frF_sawT U O L
  rw [vRetP_ap, vCmp_ap]
  have hc : (frD (vCall S_seenT (aC (vVar 1) (aC (vVar 2) (aC (vVar 3) (aC (vVar 4) (aC (vVar 5) aN))))))) (e15 ns p h f (.va (.f (.d (opsD os)))) (.va (.f (.d (rowsP ins)))) (.va (.f (.d (lst ch)))) (.va (.f (.d (lst hs)))) (.va (.f (.d (.list [rowsP ins, lst ch, lst hs])))) (.va (sawT U (O ++ [1]) (L ++ [.tuple [.int 0, .int 0, .int 0, .int 0]]))) (.va (.f (.d (rowsP U)))) (.va (.f (.d (.list L))))) = .ok (sawD U O L) := by
    rw [frD_ap, vCall_raw]
    unfold e15
    simp (disch := first | rfl | assumption | omega | simp [*]) [hsn, hfin]
  rw [toD_ap, v2_ap, hc, bind_ok]
  unfold e15
  simp (disch := first | rfl | assumption | omega | simp [*]) [k2, eqL]
theorem law15 : ∀ ns : List Int, ns.length ≤ 63 → ∃ a, S_law_v14 [.va (.f (.sc ns))] = .ret (.f (.d (.bool true))) a := fun ns _ => law_end (run_law15 ns)
end VL

set_option Elab.async false
set_option linter.all false
set_option maxRecDepth 100000
set_option maxHeartbeats 4000000

namespace K15
open PySem PySem.Spec PyProof.Rows L2 VL

def topS (i : Nat) : Stmt := PySem.Challenge.pw_veilsum_k15_what_hands_see.main.body.getD i (.Pass ⟨0, 0, 0, 0⟩)
/-- what the top has written, as the walk asks for it -/
structure Txt (K : PySem.W.Frag) (mg : Str → Option Value) : Prop where
  no : ∀ x : Str, ((["all", "bool", "enumerate", "int", "isinstance", "len", "list", "max", "min", "range", "reversed", "sum", "tuple", "zip"] : List Str).contains x) = true → mg x = none
  f_Desk_chance : FldK K mg "Desk" "chance"
  f_Desk_left : FldK K mg "Desk" "left"
  f_Desk_letters : FldK K mg "Desk" "letters"
  f_Desk_shares : FldK K mg "Desk" "shares"
  f_Desk_table : FldK K mg "Desk" "table"
  f_Desk_weights : FldK K mg "Desk" "weights"
  f_Table_few : FldK K mg "Table" "few"
  f_Table_hands : FldK K mg "Table" "hands"
  f_Table_prime : FldK K mg "Table" "prime"
  e_AlikePoints : ExF K mg "AlikePoints"
  e_BadChance : ExF K mg "BadChance"
  e_BadHands : ExF K mg "BadHands"
  e_BadInputs : ExF K mg "BadInputs"
  e_BadSteps : ExF K mg "BadSteps"
  e_BadTable : ExF K mg "BadTable"
  e_Nought : ExF K mg "Nought"
  g_PRIMES : GTup K mg "PRIMES" [5, 7, 11, 13, 17, 19, 23, 29, 31]
section
variable {P : Program} {w : World} {K : PySem.W.Frag} {mg : Str → Option Value} {base : Heap}
abbrev st__law_cell_at : Stmt := topS 40
abbrev N__law_cell_at : List Str := ["script", "k"]
theorem sc__law_cell_at : FnScope N__law_cell_at ["script", "k"] (defScope st__law_cell_at) := ⟨rfl, rfl, rfl, by decide +kernel, rfl, by decide +kernel, by decide +kernel⟩
theorem ok__law_cell_at (F : Sits K mg "_law_cell_at" st__law_cell_at ["script", "k"]) (T : Txt K mg)  : Def P w K mg base 1 2 "_law_cell_at" ["script", "k"] S__law_cell_at := by
  unfold S__law_cell_at B__law_cell_at
  exact def_ok F sc__law_cell_at rfl rfl fun f cdv A outer s H E hr =>
  (vss_cons (vs_if (vt_cmp .lt (hu65 hr) (vd_var (pv 1)) (vd_p (vp_lenS (T.no "len" rfl) (vp_var (pv 0)))) rfl) (vss_one (vs_retP (vp_ixS (vp_var (pv 0)) (vd_var (pv 1)) (fun _ _ => rfl)))) vss_nil)
  (vss_one (vs_retP vp_int)))
abbrev st__law_mix : Stmt := topS 41
abbrev N__law_mix : List Str := ["cell", "k", "many"]
theorem sc__law_mix : FnScope N__law_mix ["cell", "k", "many"] (defScope st__law_mix) := ⟨rfl, rfl, rfl, by decide +kernel, rfl, by decide +kernel, by decide +kernel⟩
theorem ok__law_mix (F : Sits K mg "_law_mix" st__law_mix ["cell", "k", "many"]) (T : Txt K mg)  : Def P w K mg base 1 3 "_law_mix" ["cell", "k", "many"] S__law_mix := by
  unfold S__law_mix B__law_mix
  exact def_ok F sc__law_mix rfl rfl fun f cdv A outer s H E hr =>
  (vss_one (vs_retP (vp_mod (vd_p (vp_div (vd_p (vp_mod (vd_o (vo_mul (vd_o (vo_add (vd_p (vp_mod (vd_var (pv 0)) (vd_p vp_int))) (vd_p vp_int))) (vd_o (vo_add (vd_p vp_int) (vd_o (vo_mul (vd_p vp_int) (vd_var (pv 1)))))))) (vd_p vp_int))) (vd_p vp_int))) (vd_var (pv 2)))))
abbrev st__law_needs : Stmt := topS 49
abbrev N__law_needs : List Str := ["steps", "table", "total", "step"]
theorem sc__law_needs : FnScope N__law_needs ["steps", "table"] (defScope st__law_needs) := ⟨rfl, rfl, rfl, by decide +kernel, rfl, by decide +kernel, by decide +kernel⟩
theorem ok__law_needs (F : Sits K mg "_law_needs" st__law_needs ["steps", "table"]) (T : Txt K mg)  : Def P w K mg base 1 2 "_law_needs" ["steps", "table"] S__law_needs := by
  unfold S__law_needs B__law_needs
  exact def_ok F sc__law_needs rfl rfl fun f cdv A outer s H E hr =>
  (vss_cons (vs_set (i := 2) sc__law_needs.nd rfl (by first | exact .inl rfl | exact .inr rfl) vp_int rfl (by first | exact .inl rfl | exact .inr rfl))
  (vss_cons (vs_for po_body rfl (vif_list (vp_var (pv 0))) (vg_name sc__law_needs.nd rfl (by first | exact .inl rfl | exact .inr rfl) (by first | exact .inl rfl | exact .inr rfl))
  (vss_one (vs_set (i := 2) sc__law_needs.nd rfl (by first | exact .inl rfl | exact .inr rfl) (vp_o (vo_add (vd_var (pv 2)) (vd_o (vo_mul (vd_p (vp_fld T.f_Table_few (vp_var (pv 1)) rfl)) (vd_p (vp_dg3 (Nat.lt_of_le_of_lt (Nat.add_le_add_left (by decide : 1 ≤ 65) _) (hu65 hr)) vp_int (vp_fld T.f_Table_hands (vp_var (pv 1)) rfl) (vp_fld T.f_Table_hands (vp_var (pv 1)) rfl) (vd_p (vp_ix (vd_var (pv 3)) (vd_p vp_int) (fun _ _ => rfl))) vp_int (by decide) (by decide) (by decide) ⟨rfl, rfl, rfl, rfl⟩)))))) rfl (by first | exact .inl rfl | exact .inr rfl))))
  (vss_one (vs_retP (vp_var (pv 2))))))
abbrev st__law_chance_by : Stmt := topS 55
abbrev N__law_chance_by : List Str := ["cell", "steps", "table", "k"]
theorem sc__law_chance_by : FnScope N__law_chance_by ["cell", "steps", "table"] (defScope st__law_chance_by) := ⟨rfl, rfl, rfl, by decide +kernel, rfl, by decide +kernel, by decide +kernel⟩
theorem ok__law_chance_by (F : Sits K mg "_law_chance_by" st__law_chance_by ["cell", "steps", "table"]) (T : Txt K mg) (D__law_mix : Def P w K mg base 1 3 "_law_mix" ["cell", "k", "many"] S__law_mix) (D__law_needs : Def P w K mg base 1 2 "_law_needs" ["steps", "table"] S__law_needs) : Def P w K mg base 2 3 "_law_chance_by" ["cell", "steps", "table"] S__law_chance_by := by
  unfold S__law_chance_by B__law_chance_by
  exact def_ok F sc__law_chance_by rfl rfl fun f cdv A outer s H E hr =>
  (vss_one (vs_ret (vo_comp (own := [("k", 3)]) (ts := [3]) rfl sc__law_chance_by.nd (vif_vir (vif_rng1 (T.no "range" rfl) (vd_o (vo_callD D__law_needs hr (by decide) tk_body (van_cons (vp_var (pv 1)) (van_cons (vp_var (pv 2)) van_nil rfl) rfl))))) (blkOk_by (N := N__law_chance_by) (sc := defScope st__law_chance_by) (by decide +kernel)) (fun _ _ _ _ _ => (vg_name sc__law_chance_by.nd rfl (by first | exact .inl rfl | exact .inr rfl) (by first | exact .inl rfl | exact .inr rfl))) (fun _ _ _ _ _ => vts_nil) (fun _ _ _ _ _ => (vo_callD D__law_mix hr (by decide) takes0 (van_cons (vp_var (pv 0)) (van_cons (vp_o (vo_add (vd_p vp_int) (vd_var (pv 3)))) (van_cons (vp_fld T.f_Table_prime (vp_var (pv 2)) rfl) van_nil rfl) rfl) rfl))) (by decide))))
abbrev st__law_used : Stmt := topS 47
abbrev N__law_used : List Str := ["steps", "hand", "step"]
theorem sc__law_used : FnScope N__law_used ["steps", "hand"] (defScope st__law_used) := ⟨rfl, rfl, rfl, by decide +kernel, rfl, by decide +kernel, by decide +kernel⟩
theorem ok__law_used (F : Sits K mg "_law_used" st__law_used ["steps", "hand"]) (T : Txt K mg)  : Def P w K mg base 1 2 "_law_used" ["steps", "hand"] S__law_used := by
  unfold S__law_used B__law_used
  exact def_ok F sc__law_used rfl rfl fun f cdv A outer s H E hr =>
  (vss_one (vs_retP (vp_len (T.no "len" rfl) (vd_o (vo_comp (own := [("step", 2)]) (ts := [2]) rfl sc__law_used.nd (vir_list (vd_var (pv 0))) (blkOk_by (N := N__law_used) (sc := defScope st__law_used) (by decide +kernel)) (fun _ _ _ _ _ => (vg_name sc__law_used.nd rfl (by first | exact .inl rfl | exact .inr rfl) (by first | exact .inl rfl | exact .inr rfl))) (fun _ _ _ _ _ => (vts_one (vt_cmp .eq (hu65 hr) (vd_var (pv 2)) (vd_p (vp_tup (va_cons vp_str (va_cons (vp_var (pv 1)) va_nil rfl) rfl))) rfl))) (fun _ _ _ _ _ => (vo_p (vp_var (pv 2)))) (by decide))))))
abbrev st__law_inputs_by : Stmt := topS 48
abbrev N__law_inputs_by : List Str := ["cell", "steps", "table", "found", "hand", "many", "k"]
theorem sc__law_inputs_by : FnScope N__law_inputs_by ["cell", "steps", "table"] (defScope st__law_inputs_by) := ⟨rfl, rfl, rfl, by decide +kernel, rfl, by decide +kernel, by decide +kernel⟩
theorem ok__law_inputs_by (F : Sits K mg "_law_inputs_by" st__law_inputs_by ["cell", "steps", "table"]) (T : Txt K mg) (D__law_mix : Def P w K mg base 1 3 "_law_mix" ["cell", "k", "many"] S__law_mix) (D__law_used : Def P w K mg base 1 2 "_law_used" ["steps", "hand"] S__law_used) : Def P w K mg base 2 3 "_law_inputs_by" ["cell", "steps", "table"] S__law_inputs_by := by
  unfold S__law_inputs_by B__law_inputs_by
  exact def_ok F sc__law_inputs_by rfl rfl fun f cdv A outer s H E hr =>
  (vss_cons (vs_setO (i := 3) sc__law_inputs_by.nd rfl (by first | exact .inl rfl | exact .inr rfl) (vo_lst va_nil) rfl (by first | exact .inl rfl | exact .inr rfl))
  (vss_cons (vs_for po_body rfl (vif_rng2 (T.no "range" rfl) (vd_p vp_int) (vd_o (vo_add (vd_p (vp_fld T.f_Table_hands (vp_var (pv 2)) rfl)) (vd_p vp_int)))) (vg_name sc__law_inputs_by.nd rfl (by first | exact .inl rfl | exact .inr rfl) (by first | exact .inl rfl | exact .inr rfl))
  (vss_cons (vs_set (i := 5) sc__law_inputs_by.nd rfl (by first | exact .inl rfl | exact .inr rfl) (vp_o (vo_add (vd_o (vo_callD D__law_used hr (by decide) tk_body (van_cons (vp_var (pv 1)) (van_cons (vp_var (pv 4)) van_nil rfl) rfl))) (vd_o (vo_callD D__law_mix hr (by decide) tk_body (van_cons (vp_var (pv 0)) (van_cons (vp_o (vo_add (vd_p vp_int) (vd_var (pv 4)))) (van_cons vp_int van_nil rfl) rfl) rfl))))) rfl (by first | exact .inl rfl | exact .inr rfl))
  (vss_one (vs_ex (ve_app (vpl_name (pv 3)) (vo_comp (own := [("k", 6)]) (ts := [6]) rfl sc__law_inputs_by.nd (vif_vir (vif_rng1 (T.no "range" rfl) (vd_var (pv 5)))) (blkOk_by (N := N__law_inputs_by) (sc := defScope st__law_inputs_by) (by decide +kernel)) (fun _ _ _ _ _ => (vg_name sc__law_inputs_by.nd rfl (by first | exact .inl rfl | exact .inr rfl) (by first | exact .inl rfl | exact .inr rfl))) (fun _ _ _ _ _ => vts_nil) (fun _ _ _ _ _ => (vo_callD D__law_mix hr (by decide) takes0 (van_cons (vp_var (pv 0)) (van_cons (vp_o (vo_add (vd_o (vo_add (vd_p vp_int) (vd_o (vo_mul (vd_p vp_int) (vd_var (pv 4)))))) (vd_var (pv 6)))) (van_cons (vp_fld T.f_Table_prime (vp_var (pv 2)) rfl) van_nil rfl) rfl) rfl))) (by decide)))))))
  (vss_one (vs_retV (pv 3)))))
abbrev st__law_own : Stmt := topS 56
abbrev N__law_own : List Str := ["table", "steps", "chance", "some", "found", "at", "step", "hands", "hand"]
theorem sc__law_own : FnScope N__law_own ["table", "steps", "chance", "some"] (defScope st__law_own) := ⟨rfl, rfl, rfl, by decide +kernel, rfl, by decide +kernel, by decide +kernel⟩
theorem ok__law_own (F : Sits K mg "_law_own" st__law_own ["table", "steps", "chance", "some"]) (T : Txt K mg)  : Def P w K mg base 1 4 "_law_own" ["table", "steps", "chance", "some"] S__law_own := by
  unfold S__law_own B__law_own
  exact def_ok F sc__law_own rfl rfl fun f cdv A outer s H E hr =>
  (vss_cons (vs_set (i := 4) sc__law_own.nd rfl (by first | exact .inl rfl | exact .inr rfl) (vp_o (vo_lst va_nil)) rfl (by first | exact .inl rfl | exact .inr rfl))
  (vss_cons (vs_set (i := 5) sc__law_own.nd rfl (by first | exact .inl rfl | exact .inr rfl) vp_int rfl (by first | exact .inl rfl | exact .inr rfl))
  (vss_cons (vs_for po_body rfl (vif_list (vp_var (pv 1))) (vg_name sc__law_own.nd rfl (by first | exact .inl rfl | exact .inr rfl) (by first | exact .inl rfl | exact .inr rfl))
  (vss_cons (vs_set (i := 7) sc__law_own.nd rfl (by first | exact .inl rfl | exact .inr rfl) (vp_o (vo_lst va_nil)) rfl (by first | exact .inl rfl | exact .inr rfl))
  (vss_cons (vs_if (vt_cmp .eq (hu65 hr) (vd_p (vp_ix (vd_var (pv 6)) (vd_p vp_int) (fun _ _ => rfl))) (vd_p vp_str) rfl) (vss_one (vs_set (i := 7) sc__law_own.nd rfl (by first | exact .inl rfl | exact .inr rfl) (vp_o (vo_lst (va_cons (vp_ix (vd_var (pv 6)) (vd_p vp_int) (fun _ _ => rfl)) va_nil rfl))) rfl (by first | exact .inl rfl | exact .inr rfl))) vss_nil)
  (vss_cons (vs_if (vt_cmp .isin (hu65 hr) (vd_p (vp_ix (vd_var (pv 6)) (vd_p vp_int) (fun _ _ => rfl))) (vd_p (vp_tup (va_cons vp_str (va_cons vp_str va_nil rfl) rfl))) rfl) (vss_one (vs_set (i := 7) sc__law_own.nd rfl (by first | exact .inl rfl | exact .inr rfl) (vp_o (vo_lrg2 rfl (T.no "list" rfl) (T.no "range" rfl) (vd_p vp_int) (vd_o (vo_add (vd_p (vp_fld T.f_Table_hands (vp_var (pv 0)) rfl)) (vd_p vp_int))))) rfl (by first | exact .inl rfl | exact .inr rfl))) vss_nil)
  (vss_one (vs_for po_body rfl (vif_list (vp_var (pv 7))) (vg_name sc__law_own.nd rfl (by first | exact .inl rfl | exact .inr rfl) (by first | exact .inl rfl | exact .inr rfl))
  (vss_cons (vs_if (vt_cmp .isin (hu65 hr) (vd_var (pv 8)) (vd_var (pv 3)) rfl) (vss_one (vs_set (i := 4) sc__law_own.nd rfl (by first | exact .inl rfl | exact .inr rfl) (vp_o (vo_add (vd_var (pv 4)) (vd_o (vo_sl (vd_var (pv 2)) (vi_some (vd_var (pv 5))) (vi_some (vd_o (vo_add (vd_var (pv 5)) (vd_p (vp_fld T.f_Table_few (vp_var (pv 0)) rfl))))))))) rfl (by first | exact .inl rfl | exact .inr rfl))) vss_nil)
  (vss_one (vs_set (i := 5) sc__law_own.nd rfl (by first | exact .inl rfl | exact .inr rfl) (vp_o (vo_add (vd_var (pv 5)) (vd_p (vp_fld T.f_Table_few (vp_var (pv 0)) rfl)))) rfl (by first | exact .inl rfl | exact .inr rfl))))))))))
  (vss_one (vs_retP (vp_var (pv 4)))))))
abbrev st__law_whole : Stmt := topS 42
abbrev N__law_whole : List Str := ["found"]
theorem sc__law_whole : FnScope N__law_whole ["found"] (defScope st__law_whole) := ⟨rfl, rfl, rfl, by decide +kernel, rfl, by decide +kernel, by decide +kernel⟩
theorem ok__law_whole (F : Sits K mg "_law_whole" st__law_whole ["found"]) (T : Txt K mg)  : Def P w K mg base 1 1 "_law_whole" ["found"] S__law_whole := by
  unfold S__law_whole B__law_whole
  exact def_ok F sc__law_whole rfl rfl fun f cdv A outer s H E hr =>
  (vss_one (vs_retP (vp_and (vp_isi .int boot_int (T.no "int" rfl) (T.no "isinstance" rfl) (vd_var (pv 0)) rfl (by decide) (by decide)) (vp_one (vp_not (vp_isi .bool boot_bool (T.no "bool" rfl) (T.no "isinstance" rfl) (vd_var (pv 0)) rfl (by decide) (by decide)))))))
abbrev st__law_row : Stmt := topS 44
abbrev N__law_row : List Str := ["found", "due", "one", "other"]
theorem sc__law_row : FnScope N__law_row ["found", "due"] (defScope st__law_row) := ⟨rfl, rfl, rfl, by decide +kernel, rfl, by decide +kernel, by decide +kernel⟩
theorem ok__law_row (F : Sits K mg "_law_row" st__law_row ["found", "due"]) (T : Txt K mg) (D__law_whole : Def P w K mg base 1 1 "_law_whole" ["found"] S__law_whole) : Def P w K mg base 2 2 "_law_row" ["found", "due"] S__law_row := by
  unfold S__law_row B__law_row
  exact def_ok F sc__law_row rfl rfl fun f cdv A outer s H E hr =>
  (vss_cons (vs_if (vt_w (vw_or (vt_not (vt_p (vp_isi .list boot_list (T.no "list" rfl) (T.no "isinstance" rfl) (vd_var (pv 0)) rfl (by decide) (by decide)))) (vw_or1 (vt_cmp .ne (hu65 hr) (vd_p (vp_len (T.no "len" rfl) (vd_var (pv 0)))) (vd_p (vp_len (T.no "len" rfl) (vd_var (pv 1)))) rfl)))) (vss_one (vs_retP vp_bl)) vss_nil)
  (vss_cons (vs_for po_body rfl (vif_zip (T.no "zip" rfl) (vp_var (pv 0)) (vp_var (pv 1))) (vg_tup rfl (vgs_cons (vg_name sc__law_row.nd rfl (by first | exact .inl rfl | exact .inr rfl) (by first | exact .inl rfl | exact .inr rfl)) (vgs_cons (vg_name sc__law_row.nd rfl (by first | exact .inl rfl | exact .inr rfl) (by first | exact .inl rfl | exact .inr rfl)) vgs_nil rfl) rfl) rfl rfl)
  (vss_one (vs_if (vt_w (vw_or (vt_not (vt_p (vp_o (vo_callD D__law_whole hr (by decide) tk_body (van_cons (vp_var (pv 2)) van_nil rfl))))) (vw_or1 (vt_cmp .ne (hu65 hr) (vd_var (pv 2)) (vd_var (pv 3)) rfl)))) (vss_one (vs_retP vp_bl)) vss_nil)))
  (vss_one (vs_retP vp_bl))))
abbrev st__law_step_by : Stmt := topS 45
abbrev N__law_step_by : List Str := ["cell", "at", "table", "way", "hand", "one", "two", "number"]
theorem sc__law_step_by : FnScope N__law_step_by ["cell", "at", "table"] (defScope st__law_step_by) := ⟨rfl, rfl, rfl, by decide +kernel, rfl, by decide +kernel, by decide +kernel⟩
theorem ok__law_step_by (F : Sits K mg "_law_step_by" st__law_step_by ["cell", "at", "table"]) (T : Txt K mg) (D__law_mix : Def P w K mg base 1 3 "_law_mix" ["cell", "k", "many"] S__law_mix) : Def P w K mg base 2 3 "_law_step_by" ["cell", "at", "table"] S__law_step_by := by
  unfold S__law_step_by B__law_step_by
  exact def_ok F sc__law_step_by rfl rfl fun f cdv A outer s H E hr =>
  (vss_cons (vs_set (i := 3) sc__law_step_by.nd rfl (by first | exact .inl rfl | exact .inr rfl) (vp_o (vo_callD D__law_mix hr (by decide) tk_body (van_cons (vp_var (pv 0)) (van_cons vp_int (van_cons vp_int van_nil rfl) rfl) rfl))) rfl (by first | exact .inl rfl | exact .inr rfl))
  (vss_cons (vs_set (i := 4) sc__law_step_by.nd rfl (by first | exact .inl rfl | exact .inr rfl) (vp_o (vo_add (vd_p vp_int) (vd_o (vo_callD D__law_mix hr (by decide) tk_body (van_cons (vp_var (pv 0)) (van_cons vp_int (van_cons (vp_fld T.f_Table_hands (vp_var (pv 2)) rfl) van_nil rfl) rfl) rfl))))) rfl (by first | exact .inl rfl | exact .inr rfl))
  (vss_cons (vs_if (vt_w (vw_or (vt_cmp .eq (hu65 hr) (vd_var (pv 1)) (vd_p vp_int) rfl) (vw_or1 (vt_cmp .lt (hu65 hr) (vd_var (pv 3)) (vd_p vp_int) rfl)))) (vss_one (vs_retP (vp_tup (va_cons vp_str (va_cons (vp_var (pv 4)) va_nil rfl) rfl)))) vss_nil)
  (vss_cons (vs_set (i := 5) sc__law_step_by.nd rfl (by first | exact .inl rfl | exact .inr rfl) (vp_o (vo_callD D__law_mix hr (by decide) tk_body (van_cons (vp_var (pv 0)) (van_cons vp_int (van_cons (vp_var (pv 1)) van_nil rfl) rfl) rfl))) rfl (by first | exact .inl rfl | exact .inr rfl))
  (vss_cons (vs_set (i := 6) sc__law_step_by.nd rfl (by first | exact .inl rfl | exact .inr rfl) (vp_o (vo_callD D__law_mix hr (by decide) tk_body (van_cons (vp_var (pv 0)) (van_cons vp_int (van_cons (vp_var (pv 1)) van_nil rfl) rfl) rfl))) rfl (by first | exact .inl rfl | exact .inr rfl))
  (vss_cons (vs_set (i := 7) sc__law_step_by.nd rfl (by first | exact .inl rfl | exact .inr rfl) (vp_o (vo_callD D__law_mix hr (by decide) tk_body (van_cons (vp_var (pv 0)) (van_cons vp_int (van_cons (vp_fld T.f_Table_prime (vp_var (pv 2)) rfl) van_nil rfl) rfl) rfl))) rfl (by first | exact .inl rfl | exact .inr rfl))
  (vss_cons (vs_if (vt_cmp .eq (hu65 hr) (vd_var (pv 3)) (vd_p vp_int) rfl) (vss_one (vs_retP (vp_tup (va_cons vp_str (va_cons (vp_var (pv 7)) va_nil rfl) rfl)))) vss_nil)
  (vss_cons (vs_if (vt_cmp .eq (hu65 hr) (vd_var (pv 3)) (vd_p vp_int) rfl) (vss_one (vs_retP (vp_tup (va_cons vp_str (va_cons (vp_var (pv 5)) (va_cons (vp_var (pv 7)) va_nil rfl) rfl) rfl)))) vss_nil)
  (vss_cons (vs_if (vt_cmp .lt (hu65 hr) (vd_var (pv 3)) (vd_p vp_int) rfl) (vss_one (vs_retP (vp_tup (va_cons (vp_ix (vd_o (vo_lst (va_cons vp_str (va_cons vp_str va_nil rfl) rfl))) (vd_p (vp_sub (vd_var (pv 3)) (vd_p vp_int))) (fun _ _ => rfl)) (va_cons (vp_var (pv 5)) (va_cons (vp_var (pv 6)) va_nil rfl) rfl) rfl)))) vss_nil)
  (vss_cons (vs_if (vt_cmp .eq (hu65 hr) (vd_var (pv 3)) (vd_p vp_int) rfl) (vss_one (vs_retP (vp_tup (va_cons vp_str (va_cons (vp_var (pv 5)) (va_cons (vp_var (pv 6)) va_nil rfl) rfl) rfl)))) vss_nil)
  (vss_one (vs_retP (vp_tup (va_cons (vp_ix (vd_o (vo_lst (va_cons vp_str (va_cons vp_str va_nil rfl) rfl))) (vd_p (vp_sub (vd_var (pv 3)) (vd_p vp_int))) (fun _ _ => rfl)) (va_cons (vp_var (pv 5)) va_nil rfl) rfl))))))))))))))
abbrev st__law_steps_by : Stmt := topS 46
abbrev N__law_steps_by : List Str := ["script", "start", "many", "table", "k"]
theorem sc__law_steps_by : FnScope N__law_steps_by ["script", "start", "many", "table"] (defScope st__law_steps_by) := ⟨rfl, rfl, rfl, by decide +kernel, rfl, by decide +kernel, by decide +kernel⟩
theorem ok__law_steps_by (F : Sits K mg "_law_steps_by" st__law_steps_by ["script", "start", "many", "table"]) (T : Txt K mg) (D__law_cell_at : Def P w K mg base 1 2 "_law_cell_at" ["script", "k"] S__law_cell_at) (D__law_step_by : Def P w K mg base 2 3 "_law_step_by" ["cell", "at", "table"] S__law_step_by) : Def P w K mg base 3 4 "_law_steps_by" ["script", "start", "many", "table"] S__law_steps_by := by
  unfold S__law_steps_by B__law_steps_by
  exact def_ok F sc__law_steps_by rfl rfl fun f cdv A outer s H E hr =>
  (vss_one (vs_ret (vo_comp (own := [("k", 4)]) (ts := [4]) rfl sc__law_steps_by.nd (vif_vir (vif_rng1 (T.no "range" rfl) (vd_var (pv 2)))) (blkOk_by (N := N__law_steps_by) (sc := defScope st__law_steps_by) (by decide +kernel)) (fun _ _ _ _ _ => (vg_name sc__law_steps_by.nd rfl (by first | exact .inl rfl | exact .inr rfl) (by first | exact .inl rfl | exact .inr rfl))) (fun _ _ _ _ _ => vts_nil) (fun _ _ _ _ _ => (vo_callD D__law_step_by hr (by decide) takes0 (van_cons (vp_o (vo_callD D__law_cell_at hr (by decide) takes0 (van_cons (vp_var (pv 0)) (van_cons (vp_o (vo_add (vd_var (pv 1)) (vd_var (pv 4)))) van_nil rfl) rfl))) (van_cons (vp_var (pv 4)) (van_cons (vp_var (pv 3)) van_nil rfl) rfl) rfl))) (by decide))))
abbrev st_Table___init__ : Stmt := inClass (topS 11) 0
abbrev N_Table___init__ : List Str := ["self", "prime", "hands", "few"]
theorem sc_Table___init__ : FnScope N_Table___init__ ["self", "prime", "hands", "few"] (defScope st_Table___init__) := ⟨rfl, rfl, rfl, by decide +kernel, rfl, by decide +kernel, by decide +kernel⟩
theorem ok_Table___init__ {f : Addr} (F : SitsM K "__init__" "Table.__init__" st_Table___init__ ["self", "prime", "hands", "few"] f) (T : Txt K mg)  : ∃ fd, FnOk P w K mg base (L2.CX P w) 1 f fd ["self", "prime", "hands", "few"] (spV K mg 4 S_Table___init__) ∧ Binds K fd ["self", "prime", "hands", "few"] [] := by
  unfold S_Table___init__ B_Table___init__
  exact meth_ok F sc_Table___init__ rfl rfl fun cdv A outer s H E hr =>
  (vss_cons (vs_if (vt_w (vw_or (vt_cmp .notin (hu65 hr) (vd_var (pv 1)) (vd_p (vp_gtup T.g_PRIMES)) rfl) (vw_or (vt_not (vt_chain .le .le (hu65 hr) (vd_p vp_int) (vd_var (pv 2)) (vd_p vp_int) rfl)) (vw_or1 (vt_cmp .ge (hu65 hr) (vd_var (pv 2)) (vd_var (pv 1)) rfl))))) (vss_one (vs_raiseE T.e_BadTable rfl tk_body)) vss_nil)
  (vss_cons (vs_if (vt_w (vw_or (vt_not (vt_chain .le .le (hu65 hr) (vd_p vp_int) (vd_var (pv 3)) (vd_p vp_int) rfl)) (vw_or1 (vt_cmp .ge (hu65 hr) (vd_o (vo_mul (vd_p vp_int) (vd_var (pv 3)))) (vd_var (pv 2)) rfl)))) (vss_one (vs_raiseE T.e_BadTable rfl tk_body)) vss_nil)
  (vss_cons (vs_setF T.f_Table_prime (pv 0) (vo_p (vp_var (pv 1))) rfl)
  (vss_cons (vs_setF T.f_Table_hands (pv 0) (vo_p (vp_var (pv 2))) rfl)
  (vss_one (vs_setF T.f_Table_few (pv 0) (vo_p (vp_var (pv 3))) rfl))))))
abbrev st__law_table_by : Stmt := topS 43
abbrev N__law_table_by : List Str := ["cell", "prime", "hands", "few"]
theorem sc__law_table_by : FnScope N__law_table_by ["cell"] (defScope st__law_table_by) := ⟨rfl, rfl, rfl, by decide +kernel, rfl, by decide +kernel, by decide +kernel⟩
theorem ok__law_table_by (F : Sits K mg "_law_table_by" st__law_table_by ["cell"]) (T : Txt K mg) (C_Table : ClsOk P w K mg base 1 (3 + 1) "Table" ["self", "prime", "hands", "few"] S_Table___init__) : Def P w K mg base 3 1 "_law_table_by" ["cell"] S__law_table_by := by
  unfold S__law_table_by B__law_table_by
  exact def_ok F sc__law_table_by rfl rfl fun f cdv A outer s H E hr =>
  (vss_cons (vs_set (i := 1) sc__law_table_by.nd rfl (by first | exact .inl rfl | exact .inr rfl) (vp_ix (vd_o (vo_lst (va_cons vp_int (va_cons vp_int (va_cons vp_int (va_cons vp_int (va_cons vp_int (va_cons vp_int (va_cons vp_int (va_cons vp_int (va_cons vp_int va_nil rfl) rfl) rfl) rfl) rfl) rfl) rfl) rfl) rfl))) (vd_p (vp_mod (vd_var (pv 0)) (vd_p vp_int))) (fun _ _ => rfl)) rfl (by first | exact .inl rfl | exact .inr rfl))
  (vss_cons (vs_set (i := 2) sc__law_table_by.nd rfl (by first | exact .inl rfl | exact .inr rfl) (vp_o (vo_add (vd_p vp_int) (vd_p (vp_mod (vd_p (vp_div (vd_var (pv 0)) (vd_p vp_int))) (vd_p (vp_sub (vd_p (vp_min rfl (T.no "min" rfl) (vd_p vp_int) (vd_p (vp_sub (vd_var (pv 1)) (vd_p vp_int))))) (vd_p vp_int))))))) rfl (by first | exact .inl rfl | exact .inr rfl))
  (vss_cons (vs_set (i := 3) sc__law_table_by.nd rfl (by first | exact .inl rfl | exact .inr rfl) vp_int rfl (by first | exact .inl rfl | exact .inr rfl))
  (vss_cons (vs_if (vt_w (vw_and (vt_cmp .gt (hu65 hr) (vd_var (pv 2)) (vd_p vp_int) rfl) (vw_and1 (vt_cmp .eq (hu65 hr) (vd_p (vp_mod (vd_p (vp_div (vd_var (pv 0)) (vd_p vp_int))) (vd_p vp_int))) (vd_p vp_int) rfl)))) (vss_one (vs_set (i := 3) sc__law_table_by.nd rfl (by first | exact .inl rfl | exact .inr rfl) vp_int rfl (by first | exact .inl rfl | exact .inr rfl))) vss_nil)
  (vss_one (vs_ret (vo_makeD C_Table hr (by decide) tk_body (van_cons (vp_var (pv 1)) (van_cons (vp_var (pv 2)) (van_cons (vp_var (pv 3)) van_nil rfl) rfl) rfl))))))))
abbrev st_is_number : Stmt := topS 20
abbrev N_is_number : List Str := ["table", "number"]
theorem sc_is_number : FnScope N_is_number ["table", "number"] (defScope st_is_number) := ⟨rfl, rfl, rfl, by decide +kernel, rfl, by decide +kernel, by decide +kernel⟩
theorem ok_is_number (F : Sits K mg "is_number" st_is_number ["table", "number"]) (T : Txt K mg)  : Def P w K mg base 1 2 "is_number" ["table", "number"] S_is_number := by
  unfold S_is_number B_is_number
  exact def_ok F sc_is_number rfl rfl fun f cdv A outer s H E hr =>
  (vss_one (vs_retP (vp_chain .le .lt (hu65 hr) (vd_p vp_int) (vd_var (pv 1)) (vd_p (vp_fld T.f_Table_prime (vp_var (pv 0)) rfl)) rfl)))
abbrev st_step_right : Stmt := topS 21
abbrev N_step_right : List Str := ["table", "step", "at", "word"]
theorem sc_step_right : FnScope N_step_right ["table", "step", "at"] (defScope st_step_right) := ⟨rfl, rfl, rfl, by decide +kernel, rfl, by decide +kernel, by decide +kernel⟩
theorem ok_step_right (F : Sits K mg "step_right" st_step_right ["table", "step", "at"]) (T : Txt K mg) (D_is_number : Def P w K mg base 1 2 "is_number" ["table", "number"] S_is_number) : Def P w K mg base 2 3 "step_right" ["table", "step", "at"] S_step_right := by
  unfold S_step_right B_step_right
  exact def_ok F sc_step_right rfl rfl fun f cdv A outer s H E hr =>
  (vss_cons (vs_set (i := 3) sc_step_right.nd rfl (by first | exact .inl rfl | exact .inr rfl) (vp_ix (vd_var (pv 1)) (vd_p vp_int) (fun _ _ => rfl)) rfl (by first | exact .inl rfl | exact .inr rfl))
  (vss_cons (vs_if (vt_cmp .eq (hu65 hr) (vd_var (pv 3)) (vd_p vp_str) rfl) (vss_one (vs_retP (vp_chain .le .le (hu65 hr) (vd_p vp_int) (vd_p (vp_ix (vd_var (pv 1)) (vd_p vp_int) (fun _ _ => rfl))) (vd_p (vp_fld T.f_Table_hands (vp_var (pv 0)) rfl)) rfl))) vss_nil)
  (vss_cons (vs_if (vt_cmp .eq (hu65 hr) (vd_var (pv 3)) (vd_p vp_str) rfl) (vss_one (vs_ret (vo_callD D_is_number hr (by decide) tk_body (van_cons (vp_var (pv 0)) (van_cons (vp_ix (vd_var (pv 1)) (vd_p vp_int) (fun _ _ => rfl)) van_nil rfl) rfl)))) vss_nil)
  (vss_cons (vs_if (vt_not (vt_chain .le .lt (hu65 hr) (vd_p vp_int) (vd_p (vp_ix (vd_var (pv 1)) (vd_p vp_int) (fun _ _ => rfl))) (vd_var (pv 2)) rfl)) (vss_one (vs_retP vp_bl)) vss_nil)
  (vss_cons (vs_if (vt_cmp .eq (hu65 hr) (vd_var (pv 3)) (vd_p vp_str) rfl) (vss_one (vs_ret (vo_callD D_is_number hr (by decide) tk_body (van_cons (vp_var (pv 0)) (van_cons (vp_ix (vd_var (pv 1)) (vd_p vp_int) (fun _ _ => rfl)) van_nil rfl) rfl)))) vss_nil)
  (vss_one (vs_retP (vp_or (vp_cmp .isin (hu65 hr) (vd_var (pv 3)) (vd_p (vp_tup (va_cons vp_str (va_cons vp_str va_nil rfl) rfl))) rfl) (vp_one (vp_chain .le .lt (hu65 hr) (vd_p vp_int) (vd_p (vp_ix (vd_var (pv 1)) (vd_p vp_int) (fun _ _ => rfl))) (vd_var (pv 2)) rfl))))))))))
abbrev st_right : Stmt := topS 22
abbrev N_right : List Str := ["table", "steps", "at", "step"]
theorem sc_right : FnScope N_right ["table", "steps"] (defScope st_right) := ⟨rfl, rfl, rfl, by decide +kernel, rfl, by decide +kernel, by decide +kernel⟩
theorem ok_right (F : Sits K mg "right" st_right ["table", "steps"]) (T : Txt K mg) (D_step_right : Def P w K mg base 2 3 "step_right" ["table", "step", "at"] S_step_right) : Def P w K mg base 3 2 "right" ["table", "steps"] S_right := by
  unfold S_right B_right
  exact def_ok F sc_right rfl rfl fun f cdv A outer s H E hr =>
  (vss_cons (vs_if (vt_not (vt_chain .le .le (hu65 hr) (vd_p vp_int) (vd_p (vp_len (T.no "len" rfl) (vd_var (pv 1)))) (vd_p vp_int) rfl)) (vss_one (vs_retP vp_bl)) vss_nil)
  (vss_one (vs_retP (vp_all rfl (T.no "all" rfl) (vd_o (vo_comp (own := [("at", 2), ("step", 3)]) (ts := [2, 3]) rfl sc_right.nd (vir_enum (T.no "enumerate" rfl) (vd_var (pv 1))) (blkOk_by (N := N_right) (sc := defScope st_right) (by decide +kernel)) (fun _ _ _ _ _ => (vg_tup rfl (vgs_cons (vg_name sc_right.nd rfl (by first | exact .inl rfl | exact .inr rfl) (by first | exact .inl rfl | exact .inr rfl)) (vgs_cons (vg_name sc_right.nd rfl (by first | exact .inl rfl | exact .inr rfl) (by first | exact .inl rfl | exact .inr rfl)) vgs_nil rfl) rfl) rfl rfl)) (fun _ _ _ _ _ => vts_nil) (fun _ _ _ _ _ => (vo_callD D_step_right hr (by decide) takes0 (van_cons (vp_var (pv 0)) (van_cons (vp_var (pv 3)) (van_cons (vp_var (pv 2)) van_nil rfl) rfl) rfl))) (by decide)))))))
abbrev st_check_steps : Stmt := topS 23
abbrev N_check_steps : List Str := ["table", "steps"]
theorem sc_check_steps : FnScope N_check_steps ["table", "steps"] (defScope st_check_steps) := ⟨rfl, rfl, rfl, by decide +kernel, rfl, by decide +kernel, by decide +kernel⟩
theorem ok_check_steps (F : Sits K mg "check_steps" st_check_steps ["table", "steps"]) (T : Txt K mg) (D_right : Def P w K mg base 3 2 "right" ["table", "steps"] S_right) : Def P w K mg base 4 2 "check_steps" ["table", "steps"] S_check_steps := by
  unfold S_check_steps B_check_steps
  exact def_ok F sc_check_steps rfl rfl fun f cdv A outer s H E hr =>
  (vss_one (vs_if (vt_not (vt_p (vp_o (vo_callD D_right hr (by decide) tk_body (van_cons (vp_var (pv 0)) (van_cons (vp_var (pv 1)) van_nil rfl) rfl))))) (vss_one (vs_raiseE T.e_BadSteps rfl tk_body)) vss_nil))
abbrev st_step_needs : Stmt := topS 26
abbrev N_step_needs : List Str := ["table", "step"]
theorem sc_step_needs : FnScope N_step_needs ["table", "step"] (defScope st_step_needs) := ⟨rfl, rfl, rfl, by decide +kernel, rfl, by decide +kernel, by decide +kernel⟩
theorem ok_step_needs (F : Sits K mg "step_needs" st_step_needs ["table", "step"]) (T : Txt K mg)  : Def P w K mg base 1 2 "step_needs" ["table", "step"] S_step_needs := by
  unfold S_step_needs B_step_needs
  exact def_ok F sc_step_needs rfl rfl fun f cdv A outer s H E hr =>
  (vss_cons (vs_if (vt_cmp .eq (hu65 hr) (vd_p (vp_ix (vd_var (pv 1)) (vd_p vp_int) (fun _ _ => rfl))) (vd_p vp_str) rfl) (vss_one (vs_retP (vp_fld T.f_Table_few (vp_var (pv 0)) rfl))) vss_nil)
  (vss_cons (vs_if (vt_cmp .isin (hu65 hr) (vd_p (vp_ix (vd_var (pv 1)) (vd_p vp_int) (fun _ _ => rfl))) (vd_p (vp_tup (va_cons vp_str (va_cons vp_str va_nil rfl) rfl))) rfl) (vss_one (vs_ret (vo_mul (vd_p (vp_fld T.f_Table_few (vp_var (pv 0)) rfl)) (vd_p (vp_fld T.f_Table_hands (vp_var (pv 0)) rfl))))) vss_nil)
  (vss_one (vs_retP vp_int))))
abbrev st_needs : Stmt := topS 27
abbrev N_needs : List Str := ["table", "steps", "step"]
theorem sc_needs : FnScope N_needs ["table", "steps"] (defScope st_needs) := ⟨rfl, rfl, rfl, by decide +kernel, rfl, by decide +kernel, by decide +kernel⟩
theorem ok_needs (F : Sits K mg "needs" st_needs ["table", "steps"]) (T : Txt K mg) (D_check_steps : Def P w K mg base 4 2 "check_steps" ["table", "steps"] S_check_steps) (D_step_needs : Def P w K mg base 1 2 "step_needs" ["table", "step"] S_step_needs) : Def P w K mg base 5 2 "needs" ["table", "steps"] S_needs := by
  unfold S_needs B_needs
  exact def_ok F sc_needs rfl rfl fun f cdv A outer s H E hr =>
  (vss_cons (vs_drop (vo_callD D_check_steps hr (by decide) tk_body (van_cons (vp_var (pv 0)) (van_cons (vp_var (pv 1)) van_nil rfl) rfl)))
  (vss_one (vs_retP (vp_sum rfl (T.no "sum" rfl) (vd_o (vo_comp (own := [("step", 2)]) (ts := [2]) rfl sc_needs.nd (vir_list (vd_var (pv 1))) (blkOk_by (N := N_needs) (sc := defScope st_needs) (by decide +kernel)) (fun _ _ _ _ _ => (vg_name sc_needs.nd rfl (by first | exact .inl rfl | exact .inr rfl) (by first | exact .inl rfl | exact .inr rfl))) (fun _ _ _ _ _ => vts_nil) (fun _ _ _ _ _ => (vo_callD D_step_needs hr (by decide) takes0 (van_cons (vp_var (pv 0)) (van_cons (vp_var (pv 2)) van_nil rfl) rfl))) (by decide)))))))
abbrev st_check_chance : Stmt := topS 31
abbrev N_check_chance : List Str := ["table", "steps", "chance", "number"]
theorem sc_check_chance : FnScope N_check_chance ["table", "steps", "chance"] (defScope st_check_chance) := ⟨rfl, rfl, rfl, by decide +kernel, rfl, by decide +kernel, by decide +kernel⟩
theorem ok_check_chance (F : Sits K mg "check_chance" st_check_chance ["table", "steps", "chance"]) (T : Txt K mg) (D_is_number : Def P w K mg base 1 2 "is_number" ["table", "number"] S_is_number) (D_needs : Def P w K mg base 5 2 "needs" ["table", "steps"] S_needs) : Def P w K mg base 6 3 "check_chance" ["table", "steps", "chance"] S_check_chance := by
  unfold S_check_chance B_check_chance
  exact def_ok F sc_check_chance rfl rfl fun f cdv A outer s H E hr =>
  (vss_one (vs_if (vt_w (vw_or (vt_cmp .ne (hu65 hr) (vd_p (vp_len (T.no "len" rfl) (vd_var (pv 2)))) (vd_o (vo_callD D_needs hr (by decide) tk_body (van_cons (vp_var (pv 0)) (van_cons (vp_var (pv 1)) van_nil rfl) rfl))) rfl) (vw_or1 (vt_not (vt_p (vp_all rfl (T.no "all" rfl) (vd_o (vo_comp (own := [("number", 3)]) (ts := [3]) rfl sc_check_chance.nd (vir_list (vd_var (pv 2))) (blkOk_by (N := N_check_chance) (sc := defScope st_check_chance) (by decide +kernel)) (fun _ _ _ _ _ => (vg_name sc_check_chance.nd rfl (by first | exact .inl rfl | exact .inr rfl) (by first | exact .inl rfl | exact .inr rfl))) (fun _ _ _ _ _ => vts_nil) (fun _ _ _ _ _ => (vo_callD D_is_number hr (by decide) takes0 (van_cons (vp_var (pv 0)) (van_cons (vp_var (pv 3)) van_nil rfl) rfl))) (by decide))))))))) (vss_one (vs_raiseE T.e_BadChance rfl tk_body)) vss_nil))
abbrev st_used : Stmt := topS 25
abbrev N_used : List Str := ["steps", "hand", "step"]
theorem sc_used : FnScope N_used ["steps", "hand"] (defScope st_used) := ⟨rfl, rfl, rfl, by decide +kernel, rfl, by decide +kernel, by decide +kernel⟩
theorem ok_used (F : Sits K mg "used" st_used ["steps", "hand"]) (T : Txt K mg)  : Def P w K mg base 1 2 "used" ["steps", "hand"] S_used := by
  unfold S_used B_used
  exact def_ok F sc_used rfl rfl fun f cdv A outer s H E hr =>
  (vss_one (vs_retP (vp_len (T.no "len" rfl) (vd_o (vo_comp (own := [("step", 2)]) (ts := [2]) rfl sc_used.nd (vir_list (vd_var (pv 0))) (blkOk_by (N := N_used) (sc := defScope st_used) (by decide +kernel)) (fun _ _ _ _ _ => (vg_name sc_used.nd rfl (by first | exact .inl rfl | exact .inr rfl) (by first | exact .inl rfl | exact .inr rfl))) (fun _ _ _ _ _ => (vts_one (vt_w (vw_and (vt_cmp .eq (hu65 hr) (vd_p (vp_ix (vd_var (pv 2)) (vd_p vp_int) (fun _ _ => rfl))) (vd_p vp_str) rfl) (vw_and1 (vt_cmp .eq (hu65 hr) (vd_p (vp_ix (vd_var (pv 2)) (vd_p vp_int) (fun _ _ => rfl))) (vd_var (pv 1)) rfl)))))) (fun _ _ _ _ _ => (vo_p (vp_var (pv 2)))) (by decide))))))
abbrev st_check_inputs : Stmt := topS 24
abbrev N_check_inputs : List Str := ["table", "steps", "inputs", "k", "numbers", "number"]
theorem sc_check_inputs : FnScope N_check_inputs ["table", "steps", "inputs"] (defScope st_check_inputs) := ⟨rfl, rfl, rfl, by decide +kernel, rfl, by decide +kernel, by decide +kernel⟩
theorem ok_check_inputs (F : Sits K mg "check_inputs" st_check_inputs ["table", "steps", "inputs"]) (T : Txt K mg) (D_is_number : Def P w K mg base 1 2 "is_number" ["table", "number"] S_is_number) (D_used : Def P w K mg base 1 2 "used" ["steps", "hand"] S_used) : Def P w K mg base 2 3 "check_inputs" ["table", "steps", "inputs"] S_check_inputs := by
  unfold S_check_inputs B_check_inputs
  exact def_ok F sc_check_inputs rfl rfl fun f cdv A outer s H E hr =>
  (vss_cons (vs_if (vt_cmp .ne (hu65 hr) (vd_p (vp_len (T.no "len" rfl) (vd_var (pv 2)))) (vd_p (vp_fld T.f_Table_hands (vp_var (pv 0)) rfl)) rfl) (vss_one (vs_raiseE T.e_BadInputs rfl tk_body)) vss_nil)
  (vss_one (vs_for po_body rfl (vif_enum (T.no "enumerate" rfl) (vp_var (pv 2))) (vg_tup rfl (vgs_cons (vg_name sc_check_inputs.nd rfl (by first | exact .inl rfl | exact .inr rfl) (by first | exact .inl rfl | exact .inr rfl)) (vgs_cons (vg_name sc_check_inputs.nd rfl (by first | exact .inl rfl | exact .inr rfl) (by first | exact .inl rfl | exact .inr rfl)) vgs_nil rfl) rfl) rfl rfl)
  (vss_one (vs_if (vt_w (vw_or (vt_not (vt_p (vp_all rfl (T.no "all" rfl) (vd_o (vo_comp (own := [("number", 5)]) (ts := [5]) rfl sc_check_inputs.nd (vir_list (vd_var (pv 4))) (blkOk_by (N := N_check_inputs) (sc := defScope st_check_inputs) (by decide +kernel)) (fun _ _ _ _ _ => (vg_name sc_check_inputs.nd rfl (by first | exact .inl rfl | exact .inr rfl) (by first | exact .inl rfl | exact .inr rfl))) (fun _ _ _ _ _ => vts_nil) (fun _ _ _ _ _ => (vo_callD D_is_number hr (by decide) takes0 (van_cons (vp_var (pv 0)) (van_cons (vp_var (pv 5)) van_nil rfl) rfl))) (by decide)))))) (vw_or1 (vt_cmp .lt (hu65 hr) (vd_p (vp_len (T.no "len" rfl) (vd_var (pv 4)))) (vd_o (vo_callD D_used hr (by decide) tk_body (van_cons (vp_var (pv 1)) (van_cons (vp_o (vo_add (vd_var (pv 3)) (vd_p vp_int))) van_nil rfl) rfl))) rfl)))) (vss_one (vs_raiseE T.e_BadInputs rfl tk_body)) vss_nil)))))
abbrev st_check_all : Stmt := topS 32
abbrev N_check_all : List Str := ["table", "steps", "inputs", "chance"]
theorem sc_check_all : FnScope N_check_all ["table", "steps", "inputs", "chance"] (defScope st_check_all) := ⟨rfl, rfl, rfl, by decide +kernel, rfl, by decide +kernel, by decide +kernel⟩
theorem ok_check_all (F : Sits K mg "check_all" st_check_all ["table", "steps", "inputs", "chance"]) (T : Txt K mg) (D_check_chance : Def P w K mg base 6 3 "check_chance" ["table", "steps", "chance"] S_check_chance) (D_check_inputs : Def P w K mg base 2 3 "check_inputs" ["table", "steps", "inputs"] S_check_inputs) (D_check_steps : Def P w K mg base 4 2 "check_steps" ["table", "steps"] S_check_steps) : Def P w K mg base 7 4 "check_all" ["table", "steps", "inputs", "chance"] S_check_all := by
  unfold S_check_all B_check_all
  exact def_ok F sc_check_all rfl rfl fun f cdv A outer s H E hr =>
  (vss_cons (vs_drop (vo_callD D_check_steps hr (by decide) tk_body (van_cons (vp_var (pv 0)) (van_cons (vp_var (pv 1)) van_nil rfl) rfl)))
  (vss_cons (vs_drop (vo_callD D_check_inputs hr (by decide) tk_body (van_cons (vp_var (pv 0)) (van_cons (vp_var (pv 1)) (van_cons (vp_var (pv 2)) van_nil rfl) rfl) rfl)))
  (vss_one (vs_drop (vo_callD D_check_chance hr (by decide) tk_body (van_cons (vp_var (pv 0)) (van_cons (vp_var (pv 1)) (van_cons (vp_var (pv 3)) van_nil rfl) rfl) rfl))))))
abbrev st_back : Stmt := topS 12
abbrev N_back : List Str := ["table", "number", "found", "turn"]
theorem sc_back : FnScope N_back ["table", "number"] (defScope st_back) := ⟨rfl, rfl, rfl, by decide +kernel, rfl, by decide +kernel, by decide +kernel⟩
theorem ok_back (F : Sits K mg "back" st_back ["table", "number"]) (T : Txt K mg)  : Def P w K mg base 1 2 "back" ["table", "number"] S_back := by
  unfold S_back B_back
  exact def_ok F sc_back rfl rfl fun f cdv A outer s H E hr =>
  (vss_cons (vs_if (vt_cmp .eq (hu65 hr) (vd_var (pv 1)) (vd_p vp_int) rfl) (vss_one (vs_raiseE T.e_Nought rfl tk_body)) vss_nil)
  (vss_cons (vs_set (i := 2) sc_back.nd rfl (by first | exact .inl rfl | exact .inr rfl) vp_int rfl (by first | exact .inl rfl | exact .inr rfl))
  (vss_cons (vs_for po_body rfl (vif_rng1 (T.no "range" rfl) (vd_p (vp_sub (vd_p (vp_fld T.f_Table_prime (vp_var (pv 0)) rfl)) (vd_p vp_int)))) (vg_name sc_back.nd rfl (by first | exact .inl rfl | exact .inr rfl) (by first | exact .inl rfl | exact .inr rfl))
  (vss_one (vs_set (i := 2) sc_back.nd rfl (by first | exact .inl rfl | exact .inr rfl) (vp_mod (vd_o (vo_mul (vd_var (pv 2)) (vd_var (pv 1)))) (vd_p (vp_fld T.f_Table_prime (vp_var (pv 0)) rfl))) rfl (by first | exact .inl rfl | exact .inr rfl))))
  (vss_one (vs_retP (vp_var (pv 2)))))))
abbrev st_product : Stmt := topS 14
abbrev N_product : List Str := ["table", "row", "other", "found", "j", "one", "k", "two"]
theorem sc_product : FnScope N_product ["table", "row", "other"] (defScope st_product) := ⟨rfl, rfl, rfl, by decide +kernel, rfl, by decide +kernel, by decide +kernel⟩
theorem ok_product (F : Sits K mg "product" st_product ["table", "row", "other"]) (T : Txt K mg)  : Def P w K mg base 1 3 "product" ["table", "row", "other"] S_product := by
  unfold S_product B_product
  exact def_ok F sc_product rfl rfl fun f cdv A outer s H E hr =>
  (vss_cons (vs_setO (i := 3) sc_product.nd rfl (by first | exact .inl rfl | exact .inr rfl) (vo_mul (vd_o (vo_lst (va_cons vp_int va_nil rfl))) (vd_p (vp_max rfl (T.no "max" rfl) (vd_p vp_int) (vd_p (vp_sub (vd_o (vo_add (vd_p (vp_len (T.no "len" rfl) (vd_var (pv 1)))) (vd_p (vp_len (T.no "len" rfl) (vd_var (pv 2)))))) (vd_p vp_int)))))) rfl (by first | exact .inl rfl | exact .inr rfl))
  (vss_cons (vs_for po_body rfl (vif_enum (T.no "enumerate" rfl) (vp_var (pv 1))) (vg_tup rfl (vgs_cons (vg_name sc_product.nd rfl (by first | exact .inl rfl | exact .inr rfl) (by first | exact .inl rfl | exact .inr rfl)) (vgs_cons (vg_name sc_product.nd rfl (by first | exact .inl rfl | exact .inr rfl) (by first | exact .inl rfl | exact .inr rfl)) vgs_nil rfl) rfl) rfl rfl)
  (vss_one (vs_for po_body rfl (vif_enum (T.no "enumerate" rfl) (vp_var (pv 2))) (vg_tup rfl (vgs_cons (vg_name sc_product.nd rfl (by first | exact .inl rfl | exact .inr rfl) (by first | exact .inl rfl | exact .inr rfl)) (vgs_cons (vg_name sc_product.nd rfl (by first | exact .inl rfl | exact .inr rfl) (by first | exact .inl rfl | exact .inr rfl)) vgs_nil rfl) rfl) rfl rfl)
  (vss_one (vs_setI (vpl_name (pv 3)) (vd_o (vo_add (vd_var (pv 4)) (vd_var (pv 6)))) (vo_p (vp_mod (vd_o (vo_add (vd_p (vp_pl (vpl_ix (vpl_name (pv 3)) (vd_o (vo_add (vd_var (pv 4)) (vd_var (pv 6)))) (fun _ _ => rfl)))) (vd_o (vo_mul (vd_var (pv 5)) (vd_var (pv 7)))))) (vd_p (vp_fld T.f_Table_prime (vp_var (pv 0)) rfl)))) (fun _ => rfl) rfl rfl rfl)))))
  (vss_one (vs_retV (pv 3)))))
abbrev st_through : Stmt := topS 15
abbrev N_through : List Str := ["table", "points", "found", "j", "point", "row", "k", "other", "far", "a", "b"]
theorem sc_through : FnScope N_through ["table", "points"] (defScope st_through) := ⟨rfl, rfl, rfl, by decide +kernel, rfl, by decide +kernel, by decide +kernel⟩
theorem ok_through (F : Sits K mg "through" st_through ["table", "points"]) (T : Txt K mg) (D_back : Def P w K mg base 1 2 "back" ["table", "number"] S_back) (D_product : Def P w K mg base 1 3 "product" ["table", "row", "other"] S_product) : Def P w K mg base 2 2 "through" ["table", "points"] S_through := by
  unfold S_through B_through
  exact def_ok F sc_through rfl rfl fun f cdv A outer s H E hr =>
  (vss_cons (vs_set (i := 2) sc_through.nd rfl (by first | exact .inl rfl | exact .inr rfl) (vp_o (vo_mul (vd_o (vo_lst (va_cons vp_int va_nil rfl))) (vd_p (vp_len (T.no "len" rfl) (vd_var (pv 1)))))) rfl (by first | exact .inl rfl | exact .inr rfl))
  (vss_cons (vs_for po_body rfl (vif_enum (T.no "enumerate" rfl) (vp_var (pv 1))) (vg_tup rfl (vgs_cons (vg_name sc_through.nd rfl (by first | exact .inl rfl | exact .inr rfl) (by first | exact .inl rfl | exact .inr rfl)) (vgs_cons (vg_name sc_through.nd rfl (by first | exact .inl rfl | exact .inr rfl) (by first | exact .inl rfl | exact .inr rfl)) vgs_nil rfl) rfl) rfl rfl)
  (vss_cons (vs_set (i := 5) sc_through.nd rfl (by first | exact .inl rfl | exact .inr rfl) (vp_o (vo_lst (va_cons (vp_ix (vd_var (pv 4)) (vd_p vp_int) (fun _ _ => rfl)) va_nil rfl))) rfl (by first | exact .inl rfl | exact .inr rfl))
  (vss_cons (vs_for po_body rfl (vif_enum (T.no "enumerate" rfl) (vp_var (pv 1))) (vg_tup rfl (vgs_cons (vg_name sc_through.nd rfl (by first | exact .inl rfl | exact .inr rfl) (by first | exact .inl rfl | exact .inr rfl)) (vgs_cons (vg_name sc_through.nd rfl (by first | exact .inl rfl | exact .inr rfl) (by first | exact .inl rfl | exact .inr rfl)) vgs_nil rfl) rfl) rfl rfl)
  (vss_one (vs_if (vt_cmp .ne (hu65 hr) (vd_var (pv 6)) (vd_var (pv 3)) rfl) (vss_cons (vs_if (vt_cmp .eq (hu65 hr) (vd_p (vp_ix (vd_var (pv 7)) (vd_p vp_int) (fun _ _ => rfl))) (vd_p (vp_ix (vd_var (pv 4)) (vd_p vp_int) (fun _ _ => rfl))) rfl) (vss_one (vs_raiseE T.e_AlikePoints rfl tk_body)) vss_nil)
  (vss_cons (vs_set (i := 8) sc_through.nd rfl (by first | exact .inl rfl | exact .inr rfl) (vp_o (vo_callD D_back hr (by decide) tk_body (van_cons (vp_var (pv 0)) (van_cons (vp_mod (vd_p (vp_sub (vd_p (vp_ix (vd_var (pv 4)) (vd_p vp_int) (fun _ _ => rfl))) (vd_p (vp_ix (vd_var (pv 7)) (vd_p vp_int) (fun _ _ => rfl))))) (vd_p (vp_fld T.f_Table_prime (vp_var (pv 0)) rfl))) van_nil rfl) rfl))) rfl (by first | exact .inl rfl | exact .inr rfl))
  (vss_one (vs_set (i := 5) sc_through.nd rfl (by first | exact .inl rfl | exact .inr rfl) (vp_o (vo_callD D_product hr (by decide) tk_body (van_cons (vp_var (pv 0)) (van_cons (vp_var (pv 5)) (van_cons (vp_o (vo_lst (va_cons (vp_mod (vd_o (vo_mul (vd_p (vp_neg (vd_p (vp_ix (vd_var (pv 7)) (vd_p vp_int) (fun _ _ => rfl))))) (vd_var (pv 8)))) (vd_p (vp_fld T.f_Table_prime (vp_var (pv 0)) rfl))) (va_cons (vp_var (pv 8)) va_nil rfl) rfl))) van_nil rfl) rfl) rfl))) rfl (by first | exact .inl rfl | exact .inr rfl))))) vss_nil)))
  (vss_one (vs_setLcF (i := 2) (own := [("a", 9), ("b", 10)]) (ts := [9, 10]) rfl sc_through.nd rfl rfl (sw_true rfl rfl rfl (by decide +kernel)) (vir_zip (T.no "zip" rfl) (vd_var (pv 2)) (vd_var (pv 5))) (blkOk_by (N := N_through) (sc := defScope st_through) (by decide +kernel)) (fun _ _ _ _ _ => (vg_tup rfl (vgs_cons (vg_name sc_through.nd rfl (by first | exact .inl rfl | exact .inr rfl) (by first | exact .inl rfl | exact .inr rfl)) (vgs_cons (vg_name sc_through.nd rfl (by first | exact .inl rfl | exact .inr rfl) (by first | exact .inl rfl | exact .inr rfl)) vgs_nil rfl) rfl) rfl rfl)) (fun _ _ _ _ _ => vts_nil) (fun _ _ _ _ _ => (vo_p (vp_mod (vd_o (vo_add (vd_var (pv 9)) (vd_var (pv 10)))) (vd_p (vp_fld T.f_Table_prime (vp_var (pv 0)) rfl))))) (by decide))))))
  (vss_one (vs_retP (vp_var (pv 2))))))
abbrev st_weights : Stmt := topS 16
abbrev N_weights : List Str := ["table", "found", "hand", "points", "other"]
theorem sc_weights : FnScope N_weights ["table"] (defScope st_weights) := ⟨rfl, rfl, rfl, by decide +kernel, rfl, by decide +kernel, by decide +kernel⟩
theorem ok_weights (F : Sits K mg "weights" st_weights ["table"]) (T : Txt K mg) (D_through : Def P w K mg base 2 2 "through" ["table", "points"] S_through) : Def P w K mg base 3 1 "weights" ["table"] S_weights := by
  unfold S_weights B_weights
  exact def_ok F sc_weights rfl rfl fun f cdv A outer s H E hr =>
  (vss_cons (vs_setO (i := 1) sc_weights.nd rfl (by first | exact .inl rfl | exact .inr rfl) (vo_lst va_nil) rfl (by first | exact .inl rfl | exact .inr rfl))
  (vss_cons (vs_for po_body rfl (vif_rng2 (T.no "range" rfl) (vd_p vp_int) (vd_o (vo_add (vd_p (vp_fld T.f_Table_hands (vp_var (pv 0)) rfl)) (vd_p vp_int)))) (vg_name sc_weights.nd rfl (by first | exact .inl rfl | exact .inr rfl) (by first | exact .inl rfl | exact .inr rfl))
  (vss_cons (vs_setLcF (i := 3) (own := [("other", 4)]) (ts := [4]) rfl sc_weights.nd rfl rfl (sw_true rfl rfl rfl (by decide +kernel)) (vif_vir (vif_rng2 (T.no "range" rfl) (vd_p vp_int) (vd_o (vo_add (vd_p (vp_fld T.f_Table_hands (vp_var (pv 0)) rfl)) (vd_p vp_int))))) (blkOk_by (N := N_weights) (sc := defScope st_weights) (by decide +kernel)) (fun _ _ _ _ _ => (vg_name sc_weights.nd rfl (by first | exact .inl rfl | exact .inr rfl) (by first | exact .inl rfl | exact .inr rfl))) (fun _ _ _ _ _ => vts_nil) (fun _ _ _ _ _ => (vo_p (vp_tup (va_cons (vp_var (pv 4)) (va_cons (vp_o (vo_int (T.no "int" rfl) (vd_p (vp_cmp .eq (hu65 hr) (vd_var (pv 4)) (vd_var (pv 2)) rfl)))) va_nil rfl) rfl)))) (by decide))
  (vss_one (vs_ex (ve_app (vpl_name (pv 1)) (vo_p (vp_ix (vd_o (vo_callD D_through hr (by decide) tk_body (van_cons (vp_var (pv 0)) (van_cons (vp_var (pv 3)) van_nil rfl) rfl))) (vd_p vp_int) (fun _ _ => rfl))))))))
  (vss_one (vs_retV (pv 1)))))
abbrev st_Desk___init__ : Stmt := inClass (topS 30) 0
abbrev N_Desk___init__ : List Str := ["self", "table", "inputs", "chance", "numbers"]
theorem sc_Desk___init__ : FnScope N_Desk___init__ ["self", "table", "inputs", "chance"] (defScope st_Desk___init__) := ⟨rfl, rfl, rfl, by decide +kernel, rfl, by decide +kernel, by decide +kernel⟩
theorem ok_Desk___init__ {f : Addr} (F : SitsM K "__init__" "Desk.__init__" st_Desk___init__ ["self", "table", "inputs", "chance"] f) (T : Txt K mg) (D_weights : Def P w K mg base 3 1 "weights" ["table"] S_weights) : ∃ fd, FnOk P w K mg base (L2.CX P w) 4 f fd ["self", "table", "inputs", "chance"] (spV K mg 4 S_Desk___init__) ∧ Binds K fd ["self", "table", "inputs", "chance"] [] := by
  unfold S_Desk___init__ B_Desk___init__
  exact meth_ok F sc_Desk___init__ rfl rfl fun cdv A outer s H E hr =>
  (vss_cons (vs_setF T.f_Desk_table (pv 0) (vo_p (vp_var (pv 1))) rfl)
  (vss_cons (vs_setF T.f_Desk_left (pv 0) (vo_comp (own := [("numbers", 4)]) (ts := [4]) rfl sc_Desk___init__.nd (vir_list (vd_var (pv 2))) (blkOk_by (N := N_Desk___init__) (sc := defScope st_Desk___init__) (by decide +kernel)) (fun _ _ _ _ _ => (vg_name sc_Desk___init__.nd rfl (by first | exact .inl rfl | exact .inr rfl) (by first | exact .inl rfl | exact .inr rfl))) (fun _ _ _ _ _ => vts_nil) (fun _ _ _ _ _ => (vo_list (T.no "list" rfl) (vd_var (pv 4)))) (by decide)) rfl)
  (vss_cons (vs_setF T.f_Desk_chance (pv 0) (vo_p (vp_o (vo_list (T.no "list" rfl) (vd_var (pv 3))))) rfl)
  (vss_cons (vs_setF T.f_Desk_shares (pv 0) (vo_lst va_nil) rfl)
  (vss_cons (vs_setF T.f_Desk_letters (pv 0) (vo_lst va_nil) rfl)
  (vss_one (vs_setF T.f_Desk_weights (pv 0) (vo_p (vp_o (vo_callD D_weights hr (by decide) tk_body (van_cons (vp_var (pv 1)) van_nil rfl)))) rfl)))))))
abbrev st_worth : Stmt := topS 13
abbrev N_worth : List Str := ["table", "row", "at", "total", "number"]
theorem sc_worth : FnScope N_worth ["table", "row", "at"] (defScope st_worth) := ⟨rfl, rfl, rfl, by decide +kernel, rfl, by decide +kernel, by decide +kernel⟩
theorem ok_worth (F : Sits K mg "worth" st_worth ["table", "row", "at"]) (T : Txt K mg)  : Def P w K mg base 1 3 "worth" ["table", "row", "at"] S_worth := by
  unfold S_worth B_worth
  exact def_ok F sc_worth rfl rfl fun f cdv A outer s H E hr =>
  (vss_cons (vs_set (i := 3) sc_worth.nd rfl (by first | exact .inl rfl | exact .inr rfl) vp_int rfl (by first | exact .inl rfl | exact .inr rfl))
  (vss_cons (vs_for po_body rfl (vif_rev (T.no "reversed" rfl) (vp_var (pv 1))) (vg_name sc_worth.nd rfl (by first | exact .inl rfl | exact .inr rfl) (by first | exact .inl rfl | exact .inr rfl))
  (vss_one (vs_set (i := 3) sc_worth.nd rfl (by first | exact .inl rfl | exact .inr rfl) (vp_mod (vd_o (vo_add (vd_o (vo_mul (vd_var (pv 3)) (vd_var (pv 2)))) (vd_var (pv 4)))) (vd_p (vp_fld T.f_Table_prime (vp_var (pv 0)) rfl))) rfl (by first | exact .inl rfl | exact .inr rfl))))
  (vss_one (vs_retP (vp_var (pv 3))))))
abbrev st_dealt : Stmt := topS 18
abbrev N_dealt : List Str := ["table", "number", "chance", "hand"]
theorem sc_dealt : FnScope N_dealt ["table", "number", "chance"] (defScope st_dealt) := ⟨rfl, rfl, rfl, by decide +kernel, rfl, by decide +kernel, by decide +kernel⟩
theorem ok_dealt (F : Sits K mg "dealt" st_dealt ["table", "number", "chance"]) (T : Txt K mg) (D_worth : Def P w K mg base 1 3 "worth" ["table", "row", "at"] S_worth) : Def P w K mg base 2 3 "dealt" ["table", "number", "chance"] S_dealt := by
  unfold S_dealt B_dealt
  exact def_ok F sc_dealt rfl rfl fun f cdv A outer s H E hr =>
  (vss_one (vs_ret (vo_comp (own := [("hand", 3)]) (ts := [3]) rfl sc_dealt.nd (vif_vir (vif_rng2 (T.no "range" rfl) (vd_p vp_int) (vd_o (vo_add (vd_p (vp_fld T.f_Table_hands (vp_var (pv 0)) rfl)) (vd_p vp_int))))) (blkOk_by (N := N_dealt) (sc := defScope st_dealt) (by decide +kernel)) (fun _ _ _ _ _ => (vg_name sc_dealt.nd rfl (by first | exact .inl rfl | exact .inr rfl) (by first | exact .inl rfl | exact .inr rfl))) (fun _ _ _ _ _ => vts_nil) (fun _ _ _ _ _ => (vo_callD D_worth hr (by decide) takes0 (van_cons (vp_var (pv 0)) (van_cons (vp_o (vo_add (vd_o (vo_lst (va_cons (vp_var (pv 1)) va_nil rfl))) (vd_o (vo_list (T.no "list" rfl) (vd_var (pv 2)))))) (van_cons (vp_var (pv 3)) van_nil rfl) rfl) rfl))) (by decide))))
abbrev st_Desk_send : Stmt := inClass (topS 30) 2
abbrev N_Desk_send : List Str := ["self", "hand", "numbers", "other"]
theorem sc_Desk_send : FnScope N_Desk_send ["self", "hand", "numbers"] (defScope st_Desk_send) := ⟨rfl, rfl, rfl, by decide +kernel, rfl, by decide +kernel, by decide +kernel⟩
theorem ok_Desk_send {f : Addr} (F : SitsM K "send" "Desk.send" st_Desk_send ["self", "hand", "numbers"] f) (T : Txt K mg)  : ∃ fd, FnOk P w K mg base (L2.CX P w) 1 f fd ["self", "hand", "numbers"] (spV K mg 3 S_Desk_send) ∧ Binds K fd ["self", "hand", "numbers"] [] := by
  unfold S_Desk_send B_Desk_send
  exact meth_ok F sc_Desk_send rfl rfl fun cdv A outer s H E hr =>
  (vss_one (vs_for po_body rfl (vif_rng2 (T.no "range" rfl) (vd_p vp_int) (vd_o (vo_add (vd_p (vp_fld T.f_Table_hands (vp_pl (vpl_fld T.f_Desk_table (vpl_name (pv 0)) rfl)) rfl)) (vd_p vp_int)))) (vg_name sc_Desk_send.nd rfl (by first | exact .inl rfl | exact .inr rfl) (by first | exact .inl rfl | exact .inr rfl))
  (vss_one (vs_if (vt_cmp .ne (hu65 hr) (vd_var (pv 3)) (vd_var (pv 1)) rfl) (vss_one (vs_ex (ve_app (vpl_fld T.f_Desk_letters (vpl_name (pv 0)) rfl) (vo_p (vp_tup (va_cons (vp_plen (T.no "len" rfl) (vpl_fld T.f_Desk_shares (vpl_name (pv 0)) rfl)) (va_cons (vp_var (pv 1)) (va_cons (vp_var (pv 3)) (va_cons (vp_ix (vd_var (pv 2)) (vd_p (vp_sub (vd_var (pv 3)) (vd_p vp_int))) (fun _ _ => rfl)) va_nil rfl) rfl) rfl) rfl)))))) vss_nil))))
abbrev st_Desk_deal : Stmt := inClass (topS 30) 1
abbrev N_Desk_deal : List Str := ["self", "hand", "number", "few", "chance", "found"]
theorem sc_Desk_deal : FnScope N_Desk_deal ["self", "hand", "number"] (defScope st_Desk_deal) := ⟨rfl, rfl, rfl, by decide +kernel, rfl, by decide +kernel, by decide +kernel⟩
theorem ok_Desk_deal {f : Addr} (F : SitsM K "deal" "Desk.deal" st_Desk_deal ["self", "hand", "number"] f) (T : Txt K mg) (D_dealt : Def P w K mg base 2 3 "dealt" ["table", "number", "chance"] S_dealt) (M_Desk_send : MDef P w K mg base 1 (2 + 1) "Desk" "send" ["self", "hand", "numbers"] S_Desk_send) : ∃ fd, FnOk P w K mg base (L2.CX P w) 3 f fd ["self", "hand", "number"] (spV K mg 3 S_Desk_deal) ∧ Binds K fd ["self", "hand", "number"] [] := by
  unfold S_Desk_deal B_Desk_deal
  exact meth_ok F sc_Desk_deal rfl rfl fun cdv A outer s H E hr =>
  (vss_cons (vs_set (i := 3) sc_Desk_deal.nd rfl (by first | exact .inl rfl | exact .inr rfl) (vp_fld T.f_Table_few (vp_pl (vpl_fld T.f_Desk_table (vpl_name (pv 0)) rfl)) rfl) rfl (by first | exact .inl rfl | exact .inr rfl))
  (vss_cons (vs_set (i := 4) sc_Desk_deal.nd rfl (by first | exact .inl rfl | exact .inr rfl) (vp_o (vo_sl (vd_p (vp_pl (vpl_fld T.f_Desk_chance (vpl_name (pv 0)) rfl))) vi_none (vi_some (vd_var (pv 3))))) rfl (by first | exact .inl rfl | exact .inr rfl))
  (vss_cons (vs_setF T.f_Desk_chance (pv 0) (vo_p (vp_o (vo_sl (vd_p (vp_pl (vpl_fld T.f_Desk_chance (vpl_name (pv 0)) rfl))) (vi_some (vd_var (pv 3))) vi_none))) rfl)
  (vss_cons (vs_set (i := 5) sc_Desk_deal.nd rfl (by first | exact .inl rfl | exact .inr rfl) (vp_o (vo_callD D_dealt hr (by decide) tk_body (van_cons (vp_pl (vpl_fld T.f_Desk_table (vpl_name (pv 0)) rfl)) (van_cons (vp_var (pv 2)) (van_cons (vp_var (pv 4)) van_nil rfl) rfl) rfl))) rfl (by first | exact .inl rfl | exact .inr rfl))
  (vss_cons (vs_ex (ve_methD (pl := _) M_Desk_send hr (by decide) tk_body (pv 0) (vax_p (vap_f (vp_var (pv 1)) (vap_f (vp_var (pv 5)) vap_nil rfl) rfl))))
  (vss_one (vs_retP (vp_var (pv 5)))))))))
abbrev st_joined : Stmt := topS 28
abbrev N_joined : List Str := ["table", "step", "one", "two"]
theorem sc_joined : FnScope N_joined ["table", "step", "one", "two"] (defScope st_joined) := ⟨rfl, rfl, rfl, by decide +kernel, rfl, by decide +kernel, by decide +kernel⟩
theorem ok_joined (F : Sits K mg "joined" st_joined ["table", "step", "one", "two"]) (T : Txt K mg)  : Def P w K mg base 1 4 "joined" ["table", "step", "one", "two"] S_joined := by
  unfold S_joined B_joined
  exact def_ok F sc_joined rfl rfl fun f cdv A outer s H E hr =>
  (vss_cons (vs_if (vt_cmp .eq (hu65 hr) (vd_p (vp_ix (vd_var (pv 1)) (vd_p vp_int) (fun _ _ => rfl))) (vd_p vp_str) rfl) (vss_one (vs_retP (vp_mod (vd_o (vo_add (vd_var (pv 2)) (vd_var (pv 3)))) (vd_p (vp_fld T.f_Table_prime (vp_var (pv 0)) rfl))))) vss_nil)
  (vss_cons (vs_if (vt_cmp .eq (hu65 hr) (vd_p (vp_ix (vd_var (pv 1)) (vd_p vp_int) (fun _ _ => rfl))) (vd_p vp_str) rfl) (vss_one (vs_retP (vp_mod (vd_p (vp_sub (vd_var (pv 2)) (vd_var (pv 3)))) (vd_p (vp_fld T.f_Table_prime (vp_var (pv 0)) rfl))))) vss_nil)
  (vss_one (vs_retP (vp_mod (vd_o (vo_mul (vd_var (pv 2)) (vd_var (pv 3)))) (vd_p (vp_fld T.f_Table_prime (vp_var (pv 0)) rfl)))))))
abbrev st_Desk_local : Stmt := inClass (topS 30) 4
abbrev N_Desk_local : List Str := ["self", "step", "ones", "twos", "one", "two"]
theorem sc_Desk_local : FnScope N_Desk_local ["self", "step"] (defScope st_Desk_local) := ⟨rfl, rfl, rfl, by decide +kernel, rfl, by decide +kernel, by decide +kernel⟩
theorem ok_Desk_local {f : Addr} (F : SitsM K "local" "Desk.local" st_Desk_local ["self", "step"] f) (T : Txt K mg) (D_joined : Def P w K mg base 1 4 "joined" ["table", "step", "one", "two"] S_joined) : ∃ fd, FnOk P w K mg base (L2.CX P w) 2 f fd ["self", "step"] (spV K mg 2 S_Desk_local) ∧ Binds K fd ["self", "step"] [] := by
  unfold S_Desk_local B_Desk_local
  exact meth_ok F sc_Desk_local rfl rfl fun cdv A outer s H E hr =>
  (vss_cons (vs_set (i := 2) sc_Desk_local.nd rfl (by first | exact .inl rfl | exact .inr rfl) (vp_pl (vpl_ix (vpl_fld T.f_Desk_shares (vpl_name (pv 0)) rfl) (vd_p (vp_ix (vd_var (pv 1)) (vd_p vp_int) (fun _ _ => rfl))) (fun _ _ => rfl))) rfl (by first | exact .inl rfl | exact .inr rfl))
  (vss_cons (vs_set (i := 3) sc_Desk_local.nd rfl (by first | exact .inl rfl | exact .inr rfl) (vp_pl (vpl_ix (vpl_fld T.f_Desk_shares (vpl_name (pv 0)) rfl) (vd_p (vp_ix (vd_var (pv 1)) (vd_p vp_int) (fun _ _ => rfl))) (fun _ _ => rfl))) rfl (by first | exact .inl rfl | exact .inr rfl))
  (vss_one (vs_ret (vo_comp (own := [("one", 4), ("two", 5)]) (ts := [4, 5]) rfl sc_Desk_local.nd (vir_zip (T.no "zip" rfl) (vd_var (pv 2)) (vd_var (pv 3))) (blkOk_by (N := N_Desk_local) (sc := defScope st_Desk_local) (by decide +kernel)) (fun _ _ _ _ _ => (vg_tup rfl (vgs_cons (vg_name sc_Desk_local.nd rfl (by first | exact .inl rfl | exact .inr rfl) (by first | exact .inl rfl | exact .inr rfl)) (vgs_cons (vg_name sc_Desk_local.nd rfl (by first | exact .inl rfl | exact .inr rfl) (by first | exact .inl rfl | exact .inr rfl)) vgs_nil rfl) rfl) rfl rfl)) (fun _ _ _ _ _ => vts_nil) (fun _ _ _ _ _ => (vo_callD D_joined hr (by decide) takes0 (van_cons (vp_pl (vpl_fld T.f_Desk_table (vpl_name (pv 0)) rfl)) (van_cons (vp_var (pv 1)) (van_cons (vp_var (pv 4)) (van_cons (vp_var (pv 5)) van_nil rfl) rfl) rfl) rfl))) (by decide))))))
abbrev st_Desk_summed : Stmt := inClass (topS 30) 3
abbrev N_Desk_summed : List Str := ["self", "lists", "by", "found", "k", "weight", "row"]
theorem sc_Desk_summed : FnScope N_Desk_summed ["self", "lists", "by"] (defScope st_Desk_summed) := ⟨rfl, rfl, rfl, by decide +kernel, rfl, by decide +kernel, by decide +kernel⟩
theorem ok_Desk_summed {f : Addr} (F : SitsM K "summed" "Desk.summed" st_Desk_summed ["self", "lists", "by"] f) (T : Txt K mg)  : ∃ fd, FnOk P w K mg base (L2.CX P w) 1 f fd ["self", "lists", "by"] (spV K mg 3 S_Desk_summed) ∧ Binds K fd ["self", "lists", "by"] [] := by
  unfold S_Desk_summed B_Desk_summed
  exact meth_ok F sc_Desk_summed rfl rfl fun cdv A outer s H E hr =>
  (vss_cons (vs_setO (i := 3) sc_Desk_summed.nd rfl (by first | exact .inl rfl | exact .inr rfl) (vo_lst va_nil) rfl (by first | exact .inl rfl | exact .inr rfl))
  (vss_cons (vs_for po_body rfl (vif_rng1 (T.no "range" rfl) (vd_p (vp_fld T.f_Table_hands (vp_pl (vpl_fld T.f_Desk_table (vpl_name (pv 0)) rfl)) rfl))) (vg_name sc_Desk_summed.nd rfl (by first | exact .inl rfl | exact .inr rfl) (by first | exact .inl rfl | exact .inr rfl))
  (vss_one (vs_ex (ve_app (vpl_name (pv 3)) (vo_p (vp_mod (vd_p (vp_sum rfl (T.no "sum" rfl) (vd_o (vo_comp (own := [("weight", 5), ("row", 6)]) (ts := [5, 6]) rfl sc_Desk_summed.nd (vir_zip (T.no "zip" rfl) (vd_var (pv 2)) (vd_var (pv 1))) (blkOk_by (N := N_Desk_summed) (sc := defScope st_Desk_summed) (by decide +kernel)) (fun _ _ _ _ _ => (vg_tup rfl (vgs_cons (vg_name sc_Desk_summed.nd rfl (by first | exact .inl rfl | exact .inr rfl) (by first | exact .inl rfl | exact .inr rfl)) (vgs_cons (vg_name sc_Desk_summed.nd rfl (by first | exact .inl rfl | exact .inr rfl) (by first | exact .inl rfl | exact .inr rfl)) vgs_nil rfl) rfl) rfl rfl)) (fun _ _ _ _ _ => vts_nil) (fun _ _ _ _ _ => (vo_mul (vd_var (pv 5)) (vd_p (vp_ix (vd_var (pv 6)) (vd_var (pv 4)) (fun _ _ => rfl))))) (by decide))))) (vd_p (vp_fld T.f_Table_prime (vp_pl (vpl_fld T.f_Desk_table (vpl_name (pv 0)) rfl)) rfl))))))))
  (vss_one (vs_retV (pv 3)))))
abbrev st_Desk_made : Stmt := inClass (topS 30) 5
abbrev N_Desk_made : List Str := ["self", "step", "hands", "hand", "lists", "share", "k", "number"]
theorem sc_Desk_made : FnScope N_Desk_made ["self", "step"] (defScope st_Desk_made) := ⟨rfl, rfl, rfl, by decide +kernel, rfl, by decide +kernel, by decide +kernel⟩
theorem ok_Desk_made {f : Addr} (F : SitsM K "made" "Desk.made" st_Desk_made ["self", "step"] f) (T : Txt K mg) (M_Desk_deal : MDef P w K mg base 3 (2 + 1) "Desk" "deal" ["self", "hand", "number"] S_Desk_deal) (M_Desk_local : MDef P w K mg base 2 (1 + 1) "Desk" "local" ["self", "step"] S_Desk_local) (M_Desk_send : MDef P w K mg base 1 (2 + 1) "Desk" "send" ["self", "hand", "numbers"] S_Desk_send) (M_Desk_summed : MDef P w K mg base 1 (2 + 1) "Desk" "summed" ["self", "lists", "by"] S_Desk_summed) : ∃ fd, FnOk P w K mg base (L2.CX P w) 4 f fd ["self", "step"] (spV K mg 2 S_Desk_made) ∧ Binds K fd ["self", "step"] [] := by
  unfold S_Desk_made B_Desk_made
  exact meth_ok F sc_Desk_made rfl rfl fun cdv A outer s H E hr =>
  (vss_cons (vs_set (i := 2) sc_Desk_made.nd rfl (by first | exact .inl rfl | exact .inr rfl) (vp_fld T.f_Table_hands (vp_pl (vpl_fld T.f_Desk_table (vpl_name (pv 0)) rfl)) rfl) rfl (by first | exact .inl rfl | exact .inr rfl))
  (vss_cons (vs_if (vt_cmp .eq (hu65 hr) (vd_p (vp_ix (vd_var (pv 1)) (vd_p vp_int) (fun _ _ => rfl))) (vd_p vp_str) rfl) (vss_one (vs_retE (ve_methD (pl := _) M_Desk_deal hr (by decide) tk_body (pv 0) (vax_f (vp_ix (vd_var (pv 1)) (vd_p vp_int) (fun _ _ => rfl)) (vax_e (ve_pop0 (vpl_ix (vpl_fld T.f_Desk_left (vpl_name (pv 0)) rfl) (vd_p (vp_sub (vd_p (vp_ix (vd_var (pv 1)) (vd_p vp_int) (fun _ _ => rfl))) (vd_p vp_int))) (fun _ _ => rfl))) (vax_p vap_nil) rfl) rfl)))) vss_nil)
  (vss_cons (vs_if (vt_cmp .eq (hu65 hr) (vd_p (vp_ix (vd_var (pv 1)) (vd_p vp_int) (fun _ _ => rfl))) (vd_p vp_str) rfl) (vss_one (vs_ret (vo_mul (vd_o (vo_lst (va_cons (vp_ix (vd_var (pv 1)) (vd_p vp_int) (fun _ _ => rfl)) va_nil rfl))) (vd_var (pv 2))))) vss_nil)
  (vss_cons (vs_if (vt_cmp .eq (hu65 hr) (vd_p (vp_ix (vd_var (pv 1)) (vd_p vp_int) (fun _ _ => rfl))) (vd_p vp_str) rfl) (vss_one (vs_ret (vo_comp (own := [("share", 5)]) (ts := [5]) rfl sc_Desk_made.nd (vir_list (vd_p (vp_pl (vpl_ix (vpl_fld T.f_Desk_shares (vpl_name (pv 0)) rfl) (vd_p (vp_ix (vd_var (pv 1)) (vd_p vp_int) (fun _ _ => rfl))) (fun _ _ => rfl))))) (blkOk_by (N := N_Desk_made) (sc := defScope st_Desk_made) (by decide +kernel)) (fun _ _ _ _ _ => (vg_name sc_Desk_made.nd rfl (by first | exact .inl rfl | exact .inr rfl) (by first | exact .inl rfl | exact .inr rfl))) (fun _ _ _ _ _ => vts_nil) (fun _ _ _ _ _ => (vo_p (vp_mod (vd_o (vo_mul (vd_var (pv 5)) (vd_p (vp_ix (vd_var (pv 1)) (vd_p vp_int) (fun _ _ => rfl))))) (vd_p (vp_fld T.f_Table_prime (vp_pl (vpl_fld T.f_Desk_table (vpl_name (pv 0)) rfl)) rfl))))) (by decide)))) vss_nil)
  (vss_cons (vs_if (vt_cmp .eq (hu65 hr) (vd_p (vp_ix (vd_var (pv 1)) (vd_p vp_int) (fun _ _ => rfl))) (vd_p vp_str) rfl) (vss_cons (vs_for po_body rfl (vif_rng2 (T.no "range" rfl) (vd_p vp_int) (vd_o (vo_add (vd_var (pv 2)) (vd_p vp_int)))) (vg_name sc_Desk_made.nd rfl (by first | exact .inl rfl | exact .inr rfl) (by first | exact .inl rfl | exact .inr rfl))
  (vss_one (vs_ex (ve_methD (pl := _) M_Desk_send hr (by decide) tk_body (pv 0) (vax_p (vap_f (vp_var (pv 3)) (vap_f (vp_o (vo_mul (vd_o (vo_lst (va_cons (vp_ix (vd_p (vp_pl (vpl_ix (vpl_fld T.f_Desk_shares (vpl_name (pv 0)) rfl) (vd_p (vp_ix (vd_var (pv 1)) (vd_p vp_int) (fun _ _ => rfl))) (fun _ _ => rfl)))) (vd_p (vp_sub (vd_var (pv 3)) (vd_p vp_int))) (fun _ _ => rfl)) va_nil rfl))) (vd_var (pv 2)))) vap_nil rfl) rfl))))))
  (vss_one (vs_ret (vo_list (T.no "list" rfl) (vd_p (vp_pl (vpl_ix (vpl_fld T.f_Desk_shares (vpl_name (pv 0)) rfl) (vd_p (vp_ix (vd_var (pv 1)) (vd_p vp_int) (fun _ _ => rfl))) (fun _ _ => rfl)))))))) vss_nil)
  (vss_cons (vs_if (vt_cmp .eq (hu65 hr) (vd_p (vp_ix (vd_var (pv 1)) (vd_p vp_int) (fun _ _ => rfl))) (vd_p vp_str) rfl) (vss_cons (vs_setLcEF (i := 4) (own := [("k", 6), ("number", 7)]) (ts := [6, 7]) rfl sc_Desk_made.nd rfl rfl (sw_true rfl rfl rfl (by decide +kernel)) (vif_enum (T.no "enumerate" rfl) (vp_o (vo_methD (pl := _) M_Desk_local hr (by decide) tk_body (pv 0) (vap_f (vp_var (pv 1)) vap_nil rfl)))) (blkOk_by (N := N_Desk_made) (sc := defScope st_Desk_made) (by decide +kernel)) (fun _ _ _ _ _ => (vg_tup rfl (vgs_cons (vg_name sc_Desk_made.nd rfl (by first | exact .inl rfl | exact .inr rfl) (by first | exact .inl rfl | exact .inr rfl)) (vgs_cons (vg_name sc_Desk_made.nd rfl (by first | exact .inl rfl | exact .inr rfl) (by first | exact .inl rfl | exact .inr rfl)) vgs_nil rfl) rfl) rfl rfl)) (fun _ _ _ _ _ => (ve_methD (pl := _) M_Desk_deal hr (by decide) takes0 (pv 0) (vax_p (vap_f (vp_o (vo_add (vd_var (pv 6)) (vd_p vp_int))) (vap_f (vp_var (pv 7)) vap_nil rfl) rfl)))) (by decide))
  (vss_one (vs_retE (ve_methD (pl := _) M_Desk_summed hr (by decide) tk_body (pv 0) (vax_p (vap_f (vp_var (pv 4)) (vap_f (vp_pl (vpl_fld T.f_Desk_weights (vpl_name (pv 0)) rfl)) vap_nil rfl) rfl)))))) vss_nil)
  (vss_cons (vs_if (vt_cmp .eq (hu65 hr) (vd_p (vp_ix (vd_var (pv 1)) (vd_p vp_int) (fun _ _ => rfl))) (vd_p vp_str) rfl) (vss_cons (vs_setLcEF (i := 4) (own := [("k", 6)]) (ts := [6]) rfl sc_Desk_made.nd rfl rfl (sw_true rfl rfl rfl (by decide +kernel)) (vif_rng1 (T.no "range" rfl) (vd_var (pv 2))) (blkOk_by (N := N_Desk_made) (sc := defScope st_Desk_made) (by decide +kernel)) (fun _ _ _ _ _ => (vg_name sc_Desk_made.nd rfl (by first | exact .inl rfl | exact .inr rfl) (by first | exact .inl rfl | exact .inr rfl))) (fun _ _ _ _ _ => (ve_methD (pl := _) M_Desk_deal hr (by decide) takes0 (pv 0) (vax_p (vap_f (vp_o (vo_add (vd_var (pv 6)) (vd_p vp_int))) (vap_f vp_int vap_nil rfl) rfl)))) (by decide))
  (vss_one (vs_retE (ve_methD (pl := _) M_Desk_summed hr (by decide) tk_body (pv 0) (vax_p (vap_f (vp_o (vo_add (vd_o (vo_lst (va_cons (vp_pl (vpl_ix (vpl_fld T.f_Desk_shares (vpl_name (pv 0)) rfl) (vd_p (vp_ix (vd_var (pv 1)) (vd_p vp_int) (fun _ _ => rfl))) (fun _ _ => rfl))) va_nil rfl))) (vd_var (pv 4)))) (vap_f (vp_o (vo_mul (vd_o (vo_lst (va_cons vp_int va_nil rfl))) (vd_o (vo_add (vd_var (pv 2)) (vd_p vp_int))))) vap_nil rfl) rfl)))))) vss_nil)
  (vss_one (vs_ret (vo_methD (pl := _) M_Desk_local hr (by decide) tk_body (pv 0) (vap_f (vp_var (pv 1)) vap_nil rfl)))))))))))
abbrev st_Desk_step : Stmt := inClass (topS 30) 6
abbrev N_Desk_step : List Str := ["self", "step"]
theorem sc_Desk_step : FnScope N_Desk_step ["self", "step"] (defScope st_Desk_step) := ⟨rfl, rfl, rfl, by decide +kernel, rfl, by decide +kernel, by decide +kernel⟩
theorem ok_Desk_step {f : Addr} (F : SitsM K "step" "Desk.step" st_Desk_step ["self", "step"] f) (T : Txt K mg) (M_Desk_made : MDef P w K mg base 4 (1 + 1) "Desk" "made" ["self", "step"] S_Desk_made) : ∃ fd, FnOk P w K mg base (L2.CX P w) 5 f fd ["self", "step"] (spV K mg 2 S_Desk_step) ∧ Binds K fd ["self", "step"] [] := by
  unfold S_Desk_step B_Desk_step
  exact meth_ok F sc_Desk_step rfl rfl fun cdv A outer s H E hr =>
  (vss_one (vs_ex (ve_appE (vpl_fld T.f_Desk_shares (vpl_name (pv 0)) rfl) (ve_fr (ve_methD (pl := _) M_Desk_made hr (by decide) tk_body (pv 0) (vax_p (vap_f (vp_var (pv 1)) vap_nil rfl)))))))
abbrev st_run : Stmt := topS 33
abbrev N_run : List Str := ["table", "steps", "inputs", "chance", "desk", "opened", "at", "step", "share"]
theorem sc_run : FnScope N_run ["table", "steps", "inputs", "chance"] (defScope st_run) := ⟨rfl, rfl, rfl, by decide +kernel, rfl, by decide +kernel, by decide +kernel⟩
theorem ok_run (F : Sits K mg "run" st_run ["table", "steps", "inputs", "chance"]) (T : Txt K mg) (D_check_all : Def P w K mg base 7 4 "check_all" ["table", "steps", "inputs", "chance"] S_check_all) (C_Desk : ClsOk P w K mg base 4 (3 + 1) "Desk" ["self", "table", "inputs", "chance"] S_Desk___init__) (M_Desk_step : MDef P w K mg base 5 (1 + 1) "Desk" "step" ["self", "step"] S_Desk_step) (M_Desk_summed : MDef P w K mg base 1 (2 + 1) "Desk" "summed" ["self", "lists", "by"] S_Desk_summed) : Def P w K mg base 8 4 "run" ["table", "steps", "inputs", "chance"] S_run := by
  unfold S_run B_run
  exact def_ok F sc_run rfl rfl fun f cdv A outer s H E hr =>
  (vss_cons (vs_drop (vo_callD D_check_all hr (by decide) tk_body (van_cons (vp_var (pv 0)) (van_cons (vp_var (pv 1)) (van_cons (vp_var (pv 2)) (van_cons (vp_var (pv 3)) van_nil rfl) rfl) rfl) rfl)))
  (vss_cons (vs_setO (i := 4) sc_run.nd rfl (by first | exact .inl rfl | exact .inr rfl) (vo_makeD C_Desk hr (by decide) tk_body (van_cons (vp_var (pv 0)) (van_cons (vp_var (pv 2)) (van_cons (vp_var (pv 3)) van_nil rfl) rfl) rfl)) rfl (by first | exact .inl rfl | exact .inr rfl))
  (vss_cons (vs_setO (i := 5) sc_run.nd rfl (by first | exact .inl rfl | exact .inr rfl) (vo_lst va_nil) rfl (by first | exact .inl rfl | exact .inr rfl))
  (vss_cons (vs_for po_body rfl (vif_enum (T.no "enumerate" rfl) (vp_var (pv 1))) (vg_tup rfl (vgs_cons (vg_name sc_run.nd rfl (by first | exact .inl rfl | exact .inr rfl) (by first | exact .inl rfl | exact .inr rfl)) (vgs_cons (vg_name sc_run.nd rfl (by first | exact .inl rfl | exact .inr rfl) (by first | exact .inl rfl | exact .inr rfl)) vgs_nil rfl) rfl) rfl rfl)
  (vss_cons (vs_ex (ve_methD (pl := _) M_Desk_step hr (by decide) tk_body (pv 4) (vax_p (vap_f (vp_var (pv 7)) vap_nil rfl))))
  (vss_one (vs_if (vt_cmp .eq (hu65 hr) (vd_p (vp_ix (vd_var (pv 7)) (vd_p vp_int) (fun _ _ => rfl))) (vd_p vp_str) rfl) (vss_one (vs_ex (ve_appE (vpl_name (pv 5)) (ve_tupX (vax_f (vp_var (pv 6)) (vax_e (ve_ixE (ve_fr (ve_methD (pl := _) M_Desk_summed hr (by decide) tk_body (pv 4) (vax_p (vap_f (vp_o (vo_comp (own := [("share", 8)]) (ts := [8]) rfl sc_run.nd (vir_list (vd_p (vp_pl (vpl_ix (vpl_fld T.f_Desk_shares (vpl_name (pv 4)) rfl) (vd_var (pv 6)) (fun _ _ => rfl))))) (blkOk_by (N := N_run) (sc := defScope st_run) (by decide +kernel)) (fun _ _ _ _ _ => (vg_name sc_run.nd rfl (by first | exact .inl rfl | exact .inr rfl) (by first | exact .inl rfl | exact .inr rfl))) (fun _ _ _ _ _ => vts_nil) (fun _ _ _ _ _ => (vo_mul (vd_o (vo_lst (va_cons (vp_var (pv 8)) va_nil rfl))) (vd_p (vp_fld T.f_Table_hands (vp_var (pv 0)) rfl)))) (by decide))) (vap_f (vp_pl (vpl_fld T.f_Desk_weights (vpl_name (pv 4)) rfl)) vap_nil rfl) rfl)))) (fun _ _ => rfl)) (vax_p vap_nil) rfl) rfl))))) vss_nil))))
  (vss_frz (i := 5) (ps := []) (vss_frz (i := 4) (ps := [.fld "Desk" "shares"]) (vss_frz (i := 4) (ps := [.fld "Desk" "letters"]) (vss_one (vs_retP (vp_tup (va_cons (vp_pl (vpl_fld T.f_Desk_shares (vpl_name (pv 4)) rfl)) (va_cons (vp_pl (vpl_fld T.f_Desk_letters (vpl_name (pv 4)) rfl)) (va_cons (vp_var (pv 5)) va_nil rfl) rfl) rfl)))))))))))
abbrev st_check_hands : Stmt := topS 35
abbrev N_check_hands : List Str := ["table", "some", "ahead", "hand"]
theorem sc_check_hands : FnScope N_check_hands ["table", "some"] (defScope st_check_hands) := ⟨rfl, rfl, rfl, by decide +kernel, rfl, by decide +kernel, by decide +kernel⟩
theorem ok_check_hands (F : Sits K mg "check_hands" st_check_hands ["table", "some"]) (T : Txt K mg)  : Def P w K mg base 1 2 "check_hands" ["table", "some"] S_check_hands := by
  unfold S_check_hands B_check_hands
  exact def_ok F sc_check_hands rfl rfl fun f cdv A outer s H E hr =>
  (vss_cons (vs_set (i := 2) sc_check_hands.nd rfl (by first | exact .inl rfl | exact .inr rfl) vp_int rfl (by first | exact .inl rfl | exact .inr rfl))
  (vss_one (vs_for po_body rfl (vif_list (vp_var (pv 1))) (vg_name sc_check_hands.nd rfl (by first | exact .inl rfl | exact .inr rfl) (by first | exact .inl rfl | exact .inr rfl))
  (vss_cons (vs_if (vt_not (vt_chain .lt .le (hu65 hr) (vd_var (pv 2)) (vd_var (pv 3)) (vd_p (vp_fld T.f_Table_hands (vp_var (pv 0)) rfl)) rfl)) (vss_one (vs_raiseE T.e_BadHands rfl tk_body)) vss_nil)
  (vss_one (vs_set (i := 2) sc_check_hands.nd rfl (by first | exact .inl rfl | exact .inr rfl) (vp_var (pv 3)) rfl (by first | exact .inl rfl | exact .inr rfl)))))))
abbrev st_dealers : Stmt := topS 36
abbrev N_dealers : List Str := ["table", "step"]
theorem sc_dealers : FnScope N_dealers ["table", "step"] (defScope st_dealers) := ⟨rfl, rfl, rfl, by decide +kernel, rfl, by decide +kernel, by decide +kernel⟩
theorem ok_dealers (F : Sits K mg "dealers" st_dealers ["table", "step"]) (T : Txt K mg)  : Def P w K mg base 1 2 "dealers" ["table", "step"] S_dealers := by
  unfold S_dealers B_dealers
  exact def_ok F sc_dealers rfl rfl fun f cdv A outer s H E hr =>
  (vss_cons (vs_if (vt_cmp .eq (hu65 hr) (vd_p (vp_ix (vd_var (pv 1)) (vd_p vp_int) (fun _ _ => rfl))) (vd_p vp_str) rfl) (vss_one (vs_ret (vo_lst (va_cons (vp_ix (vd_var (pv 1)) (vd_p vp_int) (fun _ _ => rfl)) va_nil rfl)))) vss_nil)
  (vss_cons (vs_if (vt_cmp .isin (hu65 hr) (vd_p (vp_ix (vd_var (pv 1)) (vd_p vp_int) (fun _ _ => rfl))) (vd_p (vp_tup (va_cons vp_str (va_cons vp_str va_nil rfl) rfl))) rfl) (vss_one (vs_ret (vo_lrg2 rfl (T.no "list" rfl) (T.no "range" rfl) (vd_p vp_int) (vd_o (vo_add (vd_p (vp_fld T.f_Table_hands (vp_var (pv 0)) rfl)) (vd_p vp_int)))))) vss_nil)
  (vss_one (vs_ret (vo_lst va_nil)))))
abbrev st_inputs_used : Stmt := topS 37
abbrev N_inputs_used : List Str := ["steps", "inputs", "some", "hand"]
theorem sc_inputs_used : FnScope N_inputs_used ["steps", "inputs", "some"] (defScope st_inputs_used) := ⟨rfl, rfl, rfl, by decide +kernel, rfl, by decide +kernel, by decide +kernel⟩
theorem ok_inputs_used (F : Sits K mg "inputs_used" st_inputs_used ["steps", "inputs", "some"]) (T : Txt K mg) (D_used : Def P w K mg base 1 2 "used" ["steps", "hand"] S_used) : Def P w K mg base 2 3 "inputs_used" ["steps", "inputs", "some"] S_inputs_used := by
  unfold S_inputs_used B_inputs_used
  exact def_ok F sc_inputs_used rfl rfl fun f cdv A outer s H E hr =>
  (vss_one (vs_ret (vo_comp (own := [("hand", 3)]) (ts := [3]) rfl sc_inputs_used.nd (vir_list (vd_var (pv 2))) (blkOk_by (N := N_inputs_used) (sc := defScope st_inputs_used) (by decide +kernel)) (fun _ _ _ _ _ => (vg_name sc_inputs_used.nd rfl (by first | exact .inl rfl | exact .inr rfl) (by first | exact .inl rfl | exact .inr rfl))) (fun _ _ _ _ _ => vts_nil) (fun _ _ _ _ _ => (vo_list (T.no "list" rfl) (vd_o (vo_sl (vd_p (vp_ix (vd_var (pv 1)) (vd_p (vp_sub (vd_var (pv 3)) (vd_p vp_int))) (fun _ _ => rfl))) vi_none (vi_some (vd_o (vo_callD D_used hr (by decide) takes0 (van_cons (vp_var (pv 0)) (van_cons (vp_var (pv 3)) van_nil rfl) rfl)))))))) (by decide))))
abbrev st_seen : Stmt := topS 38
abbrev N_seen : List Str := ["table", "steps", "inputs", "chance", "some", "own", "at", "step", "hand", "letters", "letter"]
theorem sc_seen : FnScope N_seen ["table", "steps", "inputs", "chance", "some"] (defScope st_seen) := ⟨rfl, rfl, rfl, by decide +kernel, rfl, by decide +kernel, by decide +kernel⟩
theorem ok_seen (F : Sits K mg "seen" st_seen ["table", "steps", "inputs", "chance", "some"]) (T : Txt K mg) (D_check_all : Def P w K mg base 7 4 "check_all" ["table", "steps", "inputs", "chance"] S_check_all) (D_check_hands : Def P w K mg base 1 2 "check_hands" ["table", "some"] S_check_hands) (D_dealers : Def P w K mg base 1 2 "dealers" ["table", "step"] S_dealers) (D_inputs_used : Def P w K mg base 2 3 "inputs_used" ["steps", "inputs", "some"] S_inputs_used) (D_run : Def P w K mg base 8 4 "run" ["table", "steps", "inputs", "chance"] S_run) : Def P w K mg base 9 5 "seen" ["table", "steps", "inputs", "chance", "some"] S_seenT := by
  unfold S_seenT B_seenT
  exact def_ok F sc_seen rfl rfl fun f cdv A outer s H E hr =>
  (vss_cons (vs_drop (vo_callD D_check_all hr (by decide) tk_body (van_cons (vp_var (pv 0)) (van_cons (vp_var (pv 1)) (van_cons (vp_var (pv 2)) (van_cons (vp_var (pv 3)) van_nil rfl) rfl) rfl) rfl)))
  (vss_cons (vs_drop (vo_callD D_check_hands hr (by decide) tk_body (van_cons (vp_var (pv 0)) (van_cons (vp_var (pv 4)) van_nil rfl) rfl)))
  (vss_cons (vs_setO (i := 5) sc_seen.nd rfl (by first | exact .inl rfl | exact .inr rfl) (vo_lst va_nil) rfl (by first | exact .inl rfl | exact .inr rfl))
  (vss_cons (vs_set (i := 6) sc_seen.nd rfl (by first | exact .inl rfl | exact .inr rfl) vp_int rfl (by first | exact .inl rfl | exact .inr rfl))
  (vss_cons (vs_for po_body rfl (vif_list (vp_var (pv 1))) (vg_name sc_seen.nd rfl (by first | exact .inl rfl | exact .inr rfl) (by first | exact .inl rfl | exact .inr rfl))
  (vss_one (vs_for po_body rfl (vif_list (vp_o (vo_callD D_dealers hr (by decide) tk_body (van_cons (vp_var (pv 0)) (van_cons (vp_var (pv 7)) van_nil rfl) rfl)))) (vg_name sc_seen.nd rfl (by first | exact .inl rfl | exact .inr rfl) (by first | exact .inl rfl | exact .inr rfl))
  (vss_cons (vs_if (vt_cmp .isin (hu65 hr) (vd_var (pv 8)) (vd_var (pv 4)) rfl) (vss_one (vs_setO (i := 5) sc_seen.nd rfl (by first | exact .inl rfl | exact .inr rfl) (vo_add (vd_var (pv 5)) (vd_o (vo_list (T.no "list" rfl) (vd_o (vo_sl (vd_var (pv 3)) (vi_some (vd_var (pv 6))) (vi_some (vd_o (vo_add (vd_var (pv 6)) (vd_p (vp_fld T.f_Table_few (vp_var (pv 0)) rfl)))))))))) rfl (by first | exact .inl rfl | exact .inr rfl))) vss_nil)
  (vss_one (vs_set (i := 6) sc_seen.nd rfl (by first | exact .inl rfl | exact .inr rfl) (vp_o (vo_add (vd_var (pv 6)) (vd_p (vp_fld T.f_Table_few (vp_var (pv 0)) rfl)))) rfl (by first | exact .inl rfl | exact .inr rfl)))))))
  (vss_cons (vs_setLc (i := 9) (own := [("letter", 10)]) (ts := [10]) rfl sc_seen.nd rfl rfl (sw_true rfl rfl rfl (by decide +kernel)) (vir_list (vd_p (vp_ix (vd_o (vo_callD D_run hr (by decide) tk_body (van_cons (vp_var (pv 0)) (van_cons (vp_var (pv 1)) (van_cons (vp_var (pv 2)) (van_cons (vp_var (pv 3)) van_nil rfl) rfl) rfl) rfl))) (vd_p vp_int) (fun _ _ => rfl)))) (blkOk_by (N := N_seen) (sc := defScope st_seen) (by decide +kernel)) (fun _ _ _ _ _ => (vg_name sc_seen.nd rfl (by first | exact .inl rfl | exact .inr rfl) (by first | exact .inl rfl | exact .inr rfl))) (fun _ _ _ _ _ => (vts_one (vt_cmp .isin (hu65 hr) (vd_p (vp_ix (vd_var (pv 10)) (vd_p vp_int) (fun _ _ => rfl))) (vd_var (pv 4)) rfl))) (fun _ _ _ _ _ => (vo_p (vp_var (pv 10)))) (by decide))
  (vss_one (vs_retT3 (vo_callD D_inputs_used hr (by decide) tk_body (van_cons (vp_var (pv 1)) (van_cons (vp_var (pv 2)) (van_cons (vp_var (pv 4)) van_nil rfl) rfl) rfl)) (pv 5) (pv 9)))))))))
abbrev st_law : Stmt := topS 57
abbrev N_law : List Str := ["script", "table", "steps", "inputs", "chance", "some", "handed", "found", "due", "letters", "hand", "row", "one", "other", "letter"]
theorem sc_law : FnScope N_law ["script"] (defScope st_law) := ⟨rfl, rfl, rfl, by decide +kernel, rfl, by decide +kernel, by decide +kernel⟩
theorem ok_law {f : Addr} {fd : FuncData} (F : Fun K "law" "law" st_law f fd) (T : Txt K mg) (D__law_cell_at : Def P w K mg base 1 2 "_law_cell_at" ["script", "k"] S__law_cell_at) (D__law_chance_by : Def P w K mg base 2 3 "_law_chance_by" ["cell", "steps", "table"] S__law_chance_by) (D__law_inputs_by : Def P w K mg base 2 3 "_law_inputs_by" ["cell", "steps", "table"] S__law_inputs_by) (D__law_mix : Def P w K mg base 1 3 "_law_mix" ["cell", "k", "many"] S__law_mix) (D__law_own : Def P w K mg base 1 4 "_law_own" ["table", "steps", "chance", "some"] S__law_own) (D__law_row : Def P w K mg base 2 2 "_law_row" ["found", "due"] S__law_row) (D__law_steps_by : Def P w K mg base 3 4 "_law_steps_by" ["script", "start", "many", "table"] S__law_steps_by) (D__law_table_by : Def P w K mg base 3 1 "_law_table_by" ["cell"] S__law_table_by) (D__law_used : Def P w K mg base 1 2 "_law_used" ["steps", "hand"] S__law_used) (D_run : Def P w K mg base 8 4 "run" ["table", "steps", "inputs", "chance"] S_run) (D_seen : Def P w K mg base 9 5 "seen" ["table", "steps", "inputs", "chance", "some"] S_seenT) : FnOk P w K mg base (L2.CX P w) 10 f fd ["script"] (spV K mg 1 S_law_v14) := by
  unfold S_law_v14 B_law_v14
  exact fn_ok F sc_law rfl rfl fun cdv A outer s H E hr =>
  (vss_cons (vs_set (i := 1) sc_law.nd rfl (by first | exact .inl rfl | exact .inr rfl) (vp_o (vo_callD D__law_table_by hr (by decide) tk_body (van_cons (vp_o (vo_callD D__law_cell_at hr (by decide) tk_body (van_cons (vp_var (pv 0)) (van_cons vp_int van_nil rfl) rfl))) van_nil rfl))) rfl (by first | exact .inl rfl | exact .inr rfl))
  (vss_cons (vs_set (i := 2) sc_law.nd rfl (by first | exact .inl rfl | exact .inr rfl) (vp_o (vo_callD D__law_steps_by hr (by decide) tk_body (van_cons (vp_var (pv 0)) (van_cons vp_int (van_cons (vp_o (vo_add (vd_p vp_int) (vd_p (vp_mod (vd_o (vo_callD D__law_cell_at hr (by decide) tk_body (van_cons (vp_var (pv 0)) (van_cons vp_int van_nil rfl) rfl))) (vd_p vp_int))))) (van_cons (vp_var (pv 1)) van_nil rfl) rfl) rfl) rfl))) rfl (by first | exact .inl rfl | exact .inr rfl))
  (vss_cons (vs_set (i := 3) sc_law.nd rfl (by first | exact .inl rfl | exact .inr rfl) (vp_o (vo_callD D__law_inputs_by hr (by decide) tk_body (van_cons (vp_o (vo_callD D__law_cell_at hr (by decide) tk_body (van_cons (vp_var (pv 0)) (van_cons vp_int van_nil rfl) rfl))) (van_cons (vp_var (pv 2)) (van_cons (vp_var (pv 1)) van_nil rfl) rfl) rfl))) rfl (by first | exact .inl rfl | exact .inr rfl))
  (vss_cons (vs_set (i := 4) sc_law.nd rfl (by first | exact .inl rfl | exact .inr rfl) (vp_o (vo_callD D__law_chance_by hr (by decide) tk_body (van_cons (vp_o (vo_callD D__law_cell_at hr (by decide) tk_body (van_cons (vp_var (pv 0)) (van_cons vp_int van_nil rfl) rfl))) (van_cons (vp_var (pv 2)) (van_cons (vp_var (pv 1)) van_nil rfl) rfl) rfl))) rfl (by first | exact .inl rfl | exact .inr rfl))
  (vss_cons (vs_set (i := 5) sc_law.nd rfl (by first | exact .inl rfl | exact .inr rfl) (vp_o (vo_comp (own := [("hand", 10)]) (ts := [10]) rfl sc_law.nd (vif_vir (vif_rng2 (T.no "range" rfl) (vd_p vp_int) (vd_o (vo_add (vd_p (vp_fld T.f_Table_hands (vp_var (pv 1)) rfl)) (vd_p vp_int))))) (blkOk_by (N := N_law) (sc := defScope st_law) (by decide +kernel)) (fun _ _ _ _ _ => (vg_name sc_law.nd rfl (by first | exact .inl rfl | exact .inr rfl) (by first | exact .inl rfl | exact .inr rfl))) (fun _ _ _ _ _ => (vts_one (vt_cmp .eq (hu65 hr) (vd_o (vo_callD D__law_mix hr (by decide) takes0 (van_cons (vp_o (vo_callD D__law_cell_at hr (by decide) takes0 (van_cons (vp_var (pv 0)) (van_cons vp_int van_nil rfl) rfl))) (van_cons (vp_var (pv 10)) (van_cons vp_int van_nil rfl) rfl) rfl))) (vd_p vp_int) rfl))) (fun _ _ _ _ _ => (vo_p (vp_var (pv 10)))) (by decide))) rfl (by first | exact .inl rfl | exact .inr rfl))
  (vss_cons (vs_set (i := 6) sc_law.nd rfl (by first | exact .inl rfl | exact .inr rfl) (vp_o (vo_lst (va_cons (vp_o (vo_comp (own := [("row", 11)]) (ts := [11]) rfl sc_law.nd (vir_list (vd_var (pv 3))) (blkOk_by (N := N_law) (sc := defScope st_law) (by decide +kernel)) (fun _ _ _ _ _ => (vg_name sc_law.nd rfl (by first | exact .inl rfl | exact .inr rfl) (by first | exact .inl rfl | exact .inr rfl))) (fun _ _ _ _ _ => vts_nil) (fun _ _ _ _ _ => (vo_list (T.no "list" rfl) (vd_var (pv 11)))) (by decide))) (va_cons (vp_o (vo_list (T.no "list" rfl) (vd_var (pv 4)))) (va_cons (vp_o (vo_list (T.no "list" rfl) (vd_var (pv 5)))) va_nil rfl) rfl) rfl))) rfl (by first | exact .inl rfl | exact .inr rfl))
  (vss_cons (vs_setO (i := 7) sc_law.nd rfl (by first | exact .inl rfl | exact .inr rfl) (vo_callD D_seen hr (by decide) tk_body (van_cons (vp_var (pv 1)) (van_cons (vp_var (pv 2)) (van_cons (vp_ix (vd_var (pv 6)) (vd_p vp_int) (fun _ _ => rfl)) (van_cons (vp_ix (vd_var (pv 6)) (vd_p vp_int) (fun _ _ => rfl)) (van_cons (vp_ix (vd_var (pv 6)) (vd_p vp_int) (fun _ _ => rfl)) van_nil rfl) rfl) rfl) rfl) rfl)) rfl (by first | exact .inl rfl | exact .inr rfl))
  (vss_cons (vs_if (vt_tmp 7 [] (vt_w (vw_or (vt_cmp .ne (hu65 hr) (vd_var (pv 6)) (vd_o (vo_lst (va_cons (vp_var (pv 3)) (va_cons (vp_var (pv 4)) (va_cons (vp_var (pv 5)) va_nil rfl) rfl) rfl))) rfl) (vw_or (vt_not (vt_p (vp_isi .tuple boot_tuple (T.no "tuple" rfl) (T.no "isinstance" rfl) (vd_var (pv 7)) rfl (by decide) (by decide)))) (vw_or1 (vt_cmp .ne (hu65 hr) (vd_p (vp_len (T.no "len" rfl) (vd_var (pv 7)))) (vd_p vp_int) rfl)))))) (vss_one (vs_retP vp_bl)) vss_nil)
  (vss_cons (vs_setLcF (i := 8) (own := [("hand", 10)]) (ts := [10]) rfl sc_law.nd rfl rfl (sw_true rfl rfl rfl (by decide +kernel)) (vir_list (vd_var (pv 5))) (blkOk_by (N := N_law) (sc := defScope st_law) (by decide +kernel)) (fun _ _ _ _ _ => (vg_name sc_law.nd rfl (by first | exact .inl rfl | exact .inr rfl) (by first | exact .inl rfl | exact .inr rfl))) (fun _ _ _ _ _ => vts_nil) (fun _ _ _ _ _ => (vo_sl (vd_p (vp_ix (vd_var (pv 3)) (vd_p (vp_sub (vd_var (pv 10)) (vd_p vp_int))) (fun _ _ => rfl))) vi_none (vi_some (vd_o (vo_callD D__law_used hr (by decide) takes0 (van_cons (vp_var (pv 2)) (van_cons (vp_var (pv 10)) van_nil rfl) rfl)))))) (by decide))
  (vss_cons (vs_if (vt_tmp 7 [] (vt_w (vw_or (vt_not (vt_p (vp_isi .list boot_list (T.no "list" rfl) (T.no "isinstance" rfl) (vd_p (vp_ix (vd_var (pv 7)) (vd_p vp_int) (fun _ _ => rfl))) rfl (by decide) (by decide)))) (vw_or1 (vt_cmp .ne (hu65 hr) (vd_p (vp_len (T.no "len" rfl) (vd_p (vp_ix (vd_var (pv 7)) (vd_p vp_int) (fun _ _ => rfl))))) (vd_p (vp_len (T.no "len" rfl) (vd_var (pv 8)))) rfl))))) (vss_one (vs_retP vp_bl)) vss_nil)
  (vss_cons (vs_if (vt_tmp 7 [] (vt_not (vt_p (vp_all rfl (T.no "all" rfl) (vd_o (vo_comp (own := [("one", 12), ("other", 13)]) (ts := [12, 13]) rfl sc_law.nd (vir_zip (T.no "zip" rfl) (vd_p (vp_ix (vd_var (pv 7)) (vd_p vp_int) (fun _ _ => rfl))) (vd_var (pv 8))) (blkOk_by (N := N_law) (sc := defScope st_law) (by decide +kernel)) (fun _ _ _ _ _ => (vg_tup rfl (vgs_cons (vg_name sc_law.nd rfl (by first | exact .inl rfl | exact .inr rfl) (by first | exact .inl rfl | exact .inr rfl)) (vgs_cons (vg_name sc_law.nd rfl (by first | exact .inl rfl | exact .inr rfl) (by first | exact .inl rfl | exact .inr rfl)) vgs_nil rfl) rfl) rfl rfl)) (fun _ _ _ _ _ => vts_nil) (fun _ _ _ _ _ => (vo_callD D__law_row hr (by decide) takes0 (van_cons (vp_var (pv 12)) (van_cons (vp_var (pv 13)) van_nil rfl) rfl))) (by decide))))))) (vss_one (vs_retP vp_bl)) vss_nil)
  (vss_cons (vs_if (vt_tmp 7 [] (vt_w (vw_or (vt_not (vt_p (vp_o (vo_callD D__law_row hr (by decide) tk_body (van_cons (vp_ix (vd_var (pv 7)) (vd_p vp_int) (fun _ _ => rfl)) (van_cons (vp_o (vo_callD D__law_own hr (by decide) tk_body (van_cons (vp_var (pv 1)) (van_cons (vp_var (pv 2)) (van_cons (vp_var (pv 4)) (van_cons (vp_var (pv 5)) van_nil rfl) rfl) rfl) rfl))) van_nil rfl) rfl))))) (vw_or1 (vt_not (vt_p (vp_isi .list boot_list (T.no "list" rfl) (T.no "isinstance" rfl) (vd_p (vp_ix (vd_var (pv 7)) (vd_p vp_int) (fun _ _ => rfl))) rfl (by decide) (by decide)))))))) (vss_one (vs_retP vp_bl)) vss_nil)
  (vss_cons (vs_setLcF (i := 9) (own := [("letter", 14)]) (ts := [14]) rfl sc_law.nd rfl rfl (sw_true rfl rfl rfl (by decide +kernel)) (vir_list (vd_p (vp_ix (vd_o (vo_callD D_run hr (by decide) tk_body (van_cons (vp_var (pv 1)) (van_cons (vp_var (pv 2)) (van_cons (vp_var (pv 3)) (van_cons (vp_var (pv 4)) van_nil rfl) rfl) rfl) rfl))) (vd_p vp_int) (fun _ _ => rfl)))) (blkOk_by (N := N_law) (sc := defScope st_law) (by decide +kernel)) (fun _ _ _ _ _ => (vg_name sc_law.nd rfl (by first | exact .inl rfl | exact .inr rfl) (by first | exact .inl rfl | exact .inr rfl))) (fun _ _ _ _ _ => (vts_one (vt_cmp .isin (hu65 hr) (vd_p (vp_ix (vd_var (pv 14)) (vd_p vp_int) (fun _ _ => rfl))) (vd_var (pv 5)) rfl))) (fun _ _ _ _ _ => (vo_p (vp_var (pv 14)))) (by decide))
  (vss_cons (vs_if (vt_tmp 7 [] (vt_cmp .ne (hu65 hr) (vd_p (vp_ix (vd_var (pv 7)) (vd_p vp_int) (fun _ _ => rfl))) (vd_var (pv 9)) rfl)) (vss_one (vs_retP vp_bl)) vss_nil)
  (vss_cons (vs_ex (ve_app (vpl_ix (vpl_name (pv 7)) (vd_p vp_int) (fun _ _ => rfl)) (vo_p vp_int)))
  (vss_cons (vs_ex (ve_app (vpl_ix (vpl_name (pv 7)) (vd_p vp_int) (fun _ _ => rfl)) (vo_p (vp_tup (va_cons vp_int (va_cons vp_int (va_cons vp_int (va_cons vp_int va_nil rfl) rfl) rfl) rfl)))))
  (vss_one (vs_retP (vp_cmp .eq (hu65 hr) (vd_p (vp_ix (vd_o (vo_callD D_seen hr (by decide) tk_body (van_cons (vp_var (pv 1)) (van_cons (vp_var (pv 2)) (van_cons (vp_var (pv 3)) (van_cons (vp_var (pv 4)) (van_cons (vp_var (pv 5)) van_nil rfl) rfl) rfl) rfl) rfl))) (vd_p vp_int) (fun _ _ => rfl))) (vd_var (pv 9)) rfl)))))))))))))))))))
end
theorem all_mk {l : PySem.W.OpenLaw} {w : World} {K : PySem.W.Frag} {h : Heap} {mg : Str → Option Value} {fa CDesk CTable EAlikePoints EBadChance EBadHands EBadInputs EBadSteps EBadTable ENought f1 f2 f3 f4 f5 f6 f7 f8 f9 f10 f11 f12 f13 f14 f15 f16 f17 f18 f19 f20 f21 f22 f23 f24 f25 f26 f27 f28 f29 f30 f31 f32 f33 f34 f35 f36 f37 f38 f39 f40 f41 f42 f43 gPRIMES : Addr} (X : K.In h) (G : h.Ns mainGlobals mg) (hfa : mg "law" = some (.ref fa))
    {od1 an1 od2 an2 od3 an3 od4 an4 od5 an5 od6 an6 od7 an7 od8 an8 od9 an9 od10 an10 od11 an11 od12 an12 od13 an13 od14 an14 od15 an15 od16 an16 od17 an17 od18 an18 od19 an19 od20 an20 od21 an21 od22 an22 od23 an23 od24 an24 od25 an25 od26 an26 od27 an27 od28 an28 od29 an29 od30 an30 od31 an31 od32 an32 od33 an33 od34 an34 od35 an35 od36 an36 od37 an37 od38 an38 od39 an39 od40 an40 od41 an41 od42 an42 od43 an43 : Option Addr} {sl1 sl2 sl3 sl4 sl5 sl6 sl7 sl8 sl9 sl10 sl11 sl12 sl13 sl14 sl15 sl16 sl17 sl18 sl19 sl20 sl21 sl22 sl23 sl24 sl25 sl26 sl27 sl28 sl29 sl30 sl31 sl32 sl33 sl34 sl35 sl36 sl37 sl38 sl39 sl40 sl41 sl42 sl43 : Array (Option Value)} {oc1 kV1 dc1 pm1 cd1 ct1 oc2 kV2 dc2 pm2 cd2 ct2 oc3 kV3 dc3 pm3 cd3 ct3 oc4 kV4 dc4 pm4 cd4 ct4 oc5 kV5 dc5 pm5 cd5 ct5 oc6 kV6 dc6 pm6 cd6 ct6 oc7 kV7 dc7 pm7 cd7 ct7 oc8 kV8 dc8 pm8 cd8 ct8 oc9 kV9 dc9 pm9 cd9 ct9 oc10 kV10 dc10 pm10 cd10 ct10 oc11 kV11 dc11 pm11 cd11 ct11 oc12 kV12 dc12 pm12 cd12 ct12 oc13 kV13 dc13 pm13 cd13 ct13 oc14 kV14 dc14 pm14 cd14 ct14 oc15 kV15 dc15 pm15 cd15 ct15 oc16 kV16 dc16 pm16 cd16 ct16 oc17 kV17 dc17 pm17 cd17 ct17 oc18 kV18 dc18 pm18 cd18 ct18 oc19 kV19 dc19 pm19 cd19 ct19 oc20 kV20 dc20 pm20 cd20 ct20 oc21 kV21 dc21 pm21 cd21 ct21 oc22 kV22 dc22 pm22 cd22 ct22 oc23 kV23 dc23 pm23 cd23 ct23 oc24 kV24 dc24 pm24 cd24 ct24 oc25 kV25 dc25 pm25 cd25 ct25 oc26 kV26 dc26 pm26 cd26 ct26 oc27 kV27 dc27 pm27 cd27 ct27 oc28 kV28 dc28 pm28 cd28 ct28 oc29 kV29 dc29 pm29 cd29 ct29 oc30 kV30 dc30 pm30 cd30 ct30 oc31 kV31 dc31 pm31 cd31 ct31 oc32 kV32 dc32 pm32 cd32 ct32 oc33 kV33 dc33 pm33 cd33 ct33 oc34 kV34 dc34 pm34 cd34 ct34 oc35 kV35 dc35 pm35 cd35 ct35 oc36 kV36 dc36 pm36 cd36 ct36 oc37 kV37 dc37 pm37 cd37 ct37 oc38 kV38 dc38 pm38 cd38 ct38 oc39 kV39 dc39 pm39 cd39 ct39 oc40 kV40 dc40 pm40 cd40 ct40 oc41 kV41 dc41 pm41 cd41 ct41 oc42 kV42 dc42 pm42 cd42 ct42 oc43 kV43 dc43 pm43 cd43 ct43 : Value} {odGPRIMES : Option Addr} {nGPRIMES : Nat} {slGPRIMES : Array (Option Value)} {tPRIMES0 tPRIMES1 tPRIMES2 tPRIMES3 tPRIMES4 tPRIMES5 tPRIMES6 tPRIMES7 tPRIMES8 : Tok}
    (a_Desk : PySem.W.nsIn K mainGlobals "Desk" = some (some (.ref CDesk))) (pg_Desk : PySem.W.plainGet K CDesk Str.empty = true) (hd_Desk : PySem.W.hasDictIn K CDesk = true) (po_Desk : PySem.W.plainOver K CDesk = true)
    (sa_Desk : PySem.W.findIn K (.ref CDesk) "__setattr__" = some (some (.builtin "object.__setattr__"))) (mk_Desk : PySem.W.makesIn K CDesk = true) (kc_Desk : PySem.W.keepIn K (.ref CDesk) = true) (a_Table : PySem.W.nsIn K mainGlobals "Table" = some (some (.ref CTable)))
    (pg_Table : PySem.W.plainGet K CTable Str.empty = true) (hd_Table : PySem.W.hasDictIn K CTable = true) (po_Table : PySem.W.plainOver K CTable = true) (sa_Table : PySem.W.findIn K (.ref CTable) "__setattr__" = some (some (.builtin "object.__setattr__")))
    (mk_Table : PySem.W.makesIn K CTable = true) (kc_Table : PySem.W.keepIn K (.ref CTable) = true) (n_Desk_chance : PySem.W.findIn K (.ref CDesk) "chance" = some none) (n_Desk_left : PySem.W.findIn K (.ref CDesk) "left" = some none)
    (n_Desk_letters : PySem.W.findIn K (.ref CDesk) "letters" = some none) (n_Desk_shares : PySem.W.findIn K (.ref CDesk) "shares" = some none) (n_Desk_table : PySem.W.findIn K (.ref CDesk) "table" = some none) (n_Desk_weights : PySem.W.findIn K (.ref CDesk) "weights" = some none)
    (n_Table_few : PySem.W.findIn K (.ref CTable) "few" = some none) (n_Table_hands : PySem.W.findIn K (.ref CTable) "hands" = some none) (n_Table_prime : PySem.W.findIn K (.ref CTable) "prime" = some none) (a_AlikePoints : PySem.W.nsIn K mainGlobals "AlikePoints" = some (some (.ref EAlikePoints)))
    (x_AlikePoints : PySem.W.excIn K EAlikePoints [.type "ValueError", .type "Exception", .type "BaseException", .type "object"] "ValueError.__new__" = true) (k_AlikePoints : PySem.W.keepIn K (.ref EAlikePoints) = true) (s_AlikePoints : PySem.W.subIn K (.ref EAlikePoints) (.type "BaseException") = some true) (t_AlikePoints : PySem.W.typeIn K (.ref EAlikePoints) = some (.type "type"))
    (a_BadChance : PySem.W.nsIn K mainGlobals "BadChance" = some (some (.ref EBadChance))) (x_BadChance : PySem.W.excIn K EBadChance [.type "ValueError", .type "Exception", .type "BaseException", .type "object"] "ValueError.__new__" = true) (k_BadChance : PySem.W.keepIn K (.ref EBadChance) = true) (s_BadChance : PySem.W.subIn K (.ref EBadChance) (.type "BaseException") = some true)
    (t_BadChance : PySem.W.typeIn K (.ref EBadChance) = some (.type "type")) (a_BadHands : PySem.W.nsIn K mainGlobals "BadHands" = some (some (.ref EBadHands))) (x_BadHands : PySem.W.excIn K EBadHands [.type "ValueError", .type "Exception", .type "BaseException", .type "object"] "ValueError.__new__" = true) (k_BadHands : PySem.W.keepIn K (.ref EBadHands) = true)
    (s_BadHands : PySem.W.subIn K (.ref EBadHands) (.type "BaseException") = some true) (t_BadHands : PySem.W.typeIn K (.ref EBadHands) = some (.type "type")) (a_BadInputs : PySem.W.nsIn K mainGlobals "BadInputs" = some (some (.ref EBadInputs))) (x_BadInputs : PySem.W.excIn K EBadInputs [.type "ValueError", .type "Exception", .type "BaseException", .type "object"] "ValueError.__new__" = true)
    (k_BadInputs : PySem.W.keepIn K (.ref EBadInputs) = true) (s_BadInputs : PySem.W.subIn K (.ref EBadInputs) (.type "BaseException") = some true) (t_BadInputs : PySem.W.typeIn K (.ref EBadInputs) = some (.type "type")) (a_BadSteps : PySem.W.nsIn K mainGlobals "BadSteps" = some (some (.ref EBadSteps)))
    (x_BadSteps : PySem.W.excIn K EBadSteps [.type "ValueError", .type "Exception", .type "BaseException", .type "object"] "ValueError.__new__" = true) (k_BadSteps : PySem.W.keepIn K (.ref EBadSteps) = true) (s_BadSteps : PySem.W.subIn K (.ref EBadSteps) (.type "BaseException") = some true) (t_BadSteps : PySem.W.typeIn K (.ref EBadSteps) = some (.type "type"))
    (a_BadTable : PySem.W.nsIn K mainGlobals "BadTable" = some (some (.ref EBadTable))) (x_BadTable : PySem.W.excIn K EBadTable [.type "ValueError", .type "Exception", .type "BaseException", .type "object"] "ValueError.__new__" = true) (k_BadTable : PySem.W.keepIn K (.ref EBadTable) = true) (s_BadTable : PySem.W.subIn K (.ref EBadTable) (.type "BaseException") = some true)
    (t_BadTable : PySem.W.typeIn K (.ref EBadTable) = some (.type "type")) (a_Nought : PySem.W.nsIn K mainGlobals "Nought" = some (some (.ref ENought))) (x_Nought : PySem.W.excIn K ENought [.type "ValueError", .type "Exception", .type "BaseException", .type "object"] "ValueError.__new__" = true) (k_Nought : PySem.W.keepIn K (.ref ENought) = true)
    (s_Nought : PySem.W.subIn K (.ref ENought) (.type "BaseException") = some true) (t_Nought : PySem.W.typeIn K (.ref ENought) = some (.type "type")) (z_all : PySem.W.nsIn K mainGlobals "all" = some none) (z_bool : PySem.W.nsIn K mainGlobals "bool" = some none)
    (z_enumerate : PySem.W.nsIn K mainGlobals "enumerate" = some none) (z_int : PySem.W.nsIn K mainGlobals "int" = some none) (z_isinstance : PySem.W.nsIn K mainGlobals "isinstance" = some none) (z_len : PySem.W.nsIn K mainGlobals "len" = some none)
    (z_list : PySem.W.nsIn K mainGlobals "list" = some none) (z_max : PySem.W.nsIn K mainGlobals "max" = some none) (z_min : PySem.W.nsIn K mainGlobals "min" = some none) (z_range : PySem.W.nsIn K mainGlobals "range" = some none)
    (z_reversed : PySem.W.nsIn K mainGlobals "reversed" = some none) (z_sum : PySem.W.nsIn K mainGlobals "sum" = some none) (z_tuple : PySem.W.nsIn K mainGlobals "tuple" = some none) (z_zip : PySem.W.nsIn K mainGlobals "zip" = some none)
    (a_PRIMES : PySem.W.nsIn K mainGlobals "PRIMES" = some (some (.ref gPRIMES))) (l_PRIMES : K.lookup gPRIMES = some ⟨.type "tuple", odGPRIMES, .seq #[.int 5 tPRIMES0, .int 7 tPRIMES1, .int 11 tPRIMES2, .int 13 tPRIMES3, .int 17 tPRIMES4, .int 19 tPRIMES5, .int 23 tPRIMES6, .int 29 tPRIMES7, .int 31 tPRIMES8] nGPRIMES, slGPRIMES⟩) (a1 : PySem.W.nsIn K mainGlobals "_law_cell_at" = some (some (.ref f1))) (l1 : K.lookup f1 = some ⟨oc1, od1, .func (PySem.W.fnOf "_law_cell_at" "_law_cell_at" (defArgs st__law_cell_at) (defBody st__law_cell_at) (defScope st__law_cell_at) .none kV1 dc1 pm1 an1 cd1 ct1), sl1⟩)
    (c1 : PySem.W.codeIn K cd1 "_law_cell_at" = true) (k1 : PySem.W.keepIn K (.ref f1) = true) (a2 : PySem.W.nsIn K mainGlobals "_law_mix" = some (some (.ref f2))) (l2 : K.lookup f2 = some ⟨oc2, od2, .func (PySem.W.fnOf "_law_mix" "_law_mix" (defArgs st__law_mix) (defBody st__law_mix) (defScope st__law_mix) .none kV2 dc2 pm2 an2 cd2 ct2), sl2⟩)
    (c2 : PySem.W.codeIn K cd2 "_law_mix" = true) (k2 : PySem.W.keepIn K (.ref f2) = true) (a3 : PySem.W.nsIn K mainGlobals "_law_needs" = some (some (.ref f3))) (l3 : K.lookup f3 = some ⟨oc3, od3, .func (PySem.W.fnOf "_law_needs" "_law_needs" (defArgs st__law_needs) (defBody st__law_needs) (defScope st__law_needs) .none kV3 dc3 pm3 an3 cd3 ct3), sl3⟩)
    (c3 : PySem.W.codeIn K cd3 "_law_needs" = true) (k3 : PySem.W.keepIn K (.ref f3) = true) (a4 : PySem.W.nsIn K mainGlobals "_law_chance_by" = some (some (.ref f4))) (l4 : K.lookup f4 = some ⟨oc4, od4, .func (PySem.W.fnOf "_law_chance_by" "_law_chance_by" (defArgs st__law_chance_by) (defBody st__law_chance_by) (defScope st__law_chance_by) .none kV4 dc4 pm4 an4 cd4 ct4), sl4⟩)
    (c4 : PySem.W.codeIn K cd4 "_law_chance_by" = true) (k4 : PySem.W.keepIn K (.ref f4) = true) (a5 : PySem.W.nsIn K mainGlobals "_law_used" = some (some (.ref f5))) (l5 : K.lookup f5 = some ⟨oc5, od5, .func (PySem.W.fnOf "_law_used" "_law_used" (defArgs st__law_used) (defBody st__law_used) (defScope st__law_used) .none kV5 dc5 pm5 an5 cd5 ct5), sl5⟩)
    (c5 : PySem.W.codeIn K cd5 "_law_used" = true) (k5 : PySem.W.keepIn K (.ref f5) = true) (a6 : PySem.W.nsIn K mainGlobals "_law_inputs_by" = some (some (.ref f6))) (l6 : K.lookup f6 = some ⟨oc6, od6, .func (PySem.W.fnOf "_law_inputs_by" "_law_inputs_by" (defArgs st__law_inputs_by) (defBody st__law_inputs_by) (defScope st__law_inputs_by) .none kV6 dc6 pm6 an6 cd6 ct6), sl6⟩)
    (c6 : PySem.W.codeIn K cd6 "_law_inputs_by" = true) (k6 : PySem.W.keepIn K (.ref f6) = true) (a7 : PySem.W.nsIn K mainGlobals "_law_own" = some (some (.ref f7))) (l7 : K.lookup f7 = some ⟨oc7, od7, .func (PySem.W.fnOf "_law_own" "_law_own" (defArgs st__law_own) (defBody st__law_own) (defScope st__law_own) .none kV7 dc7 pm7 an7 cd7 ct7), sl7⟩)
    (c7 : PySem.W.codeIn K cd7 "_law_own" = true) (k7 : PySem.W.keepIn K (.ref f7) = true) (a8 : PySem.W.nsIn K mainGlobals "_law_whole" = some (some (.ref f8))) (l8 : K.lookup f8 = some ⟨oc8, od8, .func (PySem.W.fnOf "_law_whole" "_law_whole" (defArgs st__law_whole) (defBody st__law_whole) (defScope st__law_whole) .none kV8 dc8 pm8 an8 cd8 ct8), sl8⟩)
    (c8 : PySem.W.codeIn K cd8 "_law_whole" = true) (k8 : PySem.W.keepIn K (.ref f8) = true) (a9 : PySem.W.nsIn K mainGlobals "_law_row" = some (some (.ref f9))) (l9 : K.lookup f9 = some ⟨oc9, od9, .func (PySem.W.fnOf "_law_row" "_law_row" (defArgs st__law_row) (defBody st__law_row) (defScope st__law_row) .none kV9 dc9 pm9 an9 cd9 ct9), sl9⟩)
    (c9 : PySem.W.codeIn K cd9 "_law_row" = true) (k9 : PySem.W.keepIn K (.ref f9) = true) (a10 : PySem.W.nsIn K mainGlobals "_law_step_by" = some (some (.ref f10))) (l10 : K.lookup f10 = some ⟨oc10, od10, .func (PySem.W.fnOf "_law_step_by" "_law_step_by" (defArgs st__law_step_by) (defBody st__law_step_by) (defScope st__law_step_by) .none kV10 dc10 pm10 an10 cd10 ct10), sl10⟩)
    (c10 : PySem.W.codeIn K cd10 "_law_step_by" = true) (k10 : PySem.W.keepIn K (.ref f10) = true) (a11 : PySem.W.nsIn K mainGlobals "_law_steps_by" = some (some (.ref f11))) (l11 : K.lookup f11 = some ⟨oc11, od11, .func (PySem.W.fnOf "_law_steps_by" "_law_steps_by" (defArgs st__law_steps_by) (defBody st__law_steps_by) (defScope st__law_steps_by) .none kV11 dc11 pm11 an11 cd11 ct11), sl11⟩)
    (c11 : PySem.W.codeIn K cd11 "_law_steps_by" = true) (k11 : PySem.W.keepIn K (.ref f11) = true) (a12 : PySem.W.findIn K (.ref CTable) "__init__" = some (some (.ref f12))) (i12 : PySem.W.isFn K (.ref f12) = true)
    (l12 : K.lookup f12 = some ⟨oc12, od12, .func (PySem.W.fnOf "__init__" "Table.__init__" (defArgs st_Table___init__) (defBody st_Table___init__) (defScope st_Table___init__) .none kV12 dc12 pm12 an12 cd12 ct12), sl12⟩) (c12 : PySem.W.codeIn K cd12 "Table.__init__" = true) (k12 : PySem.W.keepIn K (.ref f12) = true) (a13 : PySem.W.nsIn K mainGlobals "_law_table_by" = some (some (.ref f13)))
    (l13 : K.lookup f13 = some ⟨oc13, od13, .func (PySem.W.fnOf "_law_table_by" "_law_table_by" (defArgs st__law_table_by) (defBody st__law_table_by) (defScope st__law_table_by) .none kV13 dc13 pm13 an13 cd13 ct13), sl13⟩) (c13 : PySem.W.codeIn K cd13 "_law_table_by" = true) (k13 : PySem.W.keepIn K (.ref f13) = true) (a14 : PySem.W.nsIn K mainGlobals "is_number" = some (some (.ref f14)))
    (l14 : K.lookup f14 = some ⟨oc14, od14, .func (PySem.W.fnOf "is_number" "is_number" (defArgs st_is_number) (defBody st_is_number) (defScope st_is_number) .none kV14 dc14 pm14 an14 cd14 ct14), sl14⟩) (c14 : PySem.W.codeIn K cd14 "is_number" = true) (k14 : PySem.W.keepIn K (.ref f14) = true) (a15 : PySem.W.nsIn K mainGlobals "step_right" = some (some (.ref f15)))
    (l15 : K.lookup f15 = some ⟨oc15, od15, .func (PySem.W.fnOf "step_right" "step_right" (defArgs st_step_right) (defBody st_step_right) (defScope st_step_right) .none kV15 dc15 pm15 an15 cd15 ct15), sl15⟩) (c15 : PySem.W.codeIn K cd15 "step_right" = true) (k15 : PySem.W.keepIn K (.ref f15) = true) (a16 : PySem.W.nsIn K mainGlobals "right" = some (some (.ref f16)))
    (l16 : K.lookup f16 = some ⟨oc16, od16, .func (PySem.W.fnOf "right" "right" (defArgs st_right) (defBody st_right) (defScope st_right) .none kV16 dc16 pm16 an16 cd16 ct16), sl16⟩) (c16 : PySem.W.codeIn K cd16 "right" = true) (k16 : PySem.W.keepIn K (.ref f16) = true) (a17 : PySem.W.nsIn K mainGlobals "check_steps" = some (some (.ref f17)))
    (l17 : K.lookup f17 = some ⟨oc17, od17, .func (PySem.W.fnOf "check_steps" "check_steps" (defArgs st_check_steps) (defBody st_check_steps) (defScope st_check_steps) .none kV17 dc17 pm17 an17 cd17 ct17), sl17⟩) (c17 : PySem.W.codeIn K cd17 "check_steps" = true) (k17 : PySem.W.keepIn K (.ref f17) = true) (a18 : PySem.W.nsIn K mainGlobals "step_needs" = some (some (.ref f18)))
    (l18 : K.lookup f18 = some ⟨oc18, od18, .func (PySem.W.fnOf "step_needs" "step_needs" (defArgs st_step_needs) (defBody st_step_needs) (defScope st_step_needs) .none kV18 dc18 pm18 an18 cd18 ct18), sl18⟩) (c18 : PySem.W.codeIn K cd18 "step_needs" = true) (k18 : PySem.W.keepIn K (.ref f18) = true) (a19 : PySem.W.nsIn K mainGlobals "needs" = some (some (.ref f19)))
    (l19 : K.lookup f19 = some ⟨oc19, od19, .func (PySem.W.fnOf "needs" "needs" (defArgs st_needs) (defBody st_needs) (defScope st_needs) .none kV19 dc19 pm19 an19 cd19 ct19), sl19⟩) (c19 : PySem.W.codeIn K cd19 "needs" = true) (k19 : PySem.W.keepIn K (.ref f19) = true) (a20 : PySem.W.nsIn K mainGlobals "check_chance" = some (some (.ref f20)))
    (l20 : K.lookup f20 = some ⟨oc20, od20, .func (PySem.W.fnOf "check_chance" "check_chance" (defArgs st_check_chance) (defBody st_check_chance) (defScope st_check_chance) .none kV20 dc20 pm20 an20 cd20 ct20), sl20⟩) (c20 : PySem.W.codeIn K cd20 "check_chance" = true) (k20 : PySem.W.keepIn K (.ref f20) = true) (a21 : PySem.W.nsIn K mainGlobals "used" = some (some (.ref f21)))
    (l21 : K.lookup f21 = some ⟨oc21, od21, .func (PySem.W.fnOf "used" "used" (defArgs st_used) (defBody st_used) (defScope st_used) .none kV21 dc21 pm21 an21 cd21 ct21), sl21⟩) (c21 : PySem.W.codeIn K cd21 "used" = true) (k21 : PySem.W.keepIn K (.ref f21) = true) (a22 : PySem.W.nsIn K mainGlobals "check_inputs" = some (some (.ref f22)))
    (l22 : K.lookup f22 = some ⟨oc22, od22, .func (PySem.W.fnOf "check_inputs" "check_inputs" (defArgs st_check_inputs) (defBody st_check_inputs) (defScope st_check_inputs) .none kV22 dc22 pm22 an22 cd22 ct22), sl22⟩) (c22 : PySem.W.codeIn K cd22 "check_inputs" = true) (k22 : PySem.W.keepIn K (.ref f22) = true) (a23 : PySem.W.nsIn K mainGlobals "check_all" = some (some (.ref f23)))
    (l23 : K.lookup f23 = some ⟨oc23, od23, .func (PySem.W.fnOf "check_all" "check_all" (defArgs st_check_all) (defBody st_check_all) (defScope st_check_all) .none kV23 dc23 pm23 an23 cd23 ct23), sl23⟩) (c23 : PySem.W.codeIn K cd23 "check_all" = true) (k23 : PySem.W.keepIn K (.ref f23) = true) (a24 : PySem.W.nsIn K mainGlobals "back" = some (some (.ref f24)))
    (l24 : K.lookup f24 = some ⟨oc24, od24, .func (PySem.W.fnOf "back" "back" (defArgs st_back) (defBody st_back) (defScope st_back) .none kV24 dc24 pm24 an24 cd24 ct24), sl24⟩) (c24 : PySem.W.codeIn K cd24 "back" = true) (k24 : PySem.W.keepIn K (.ref f24) = true) (a25 : PySem.W.nsIn K mainGlobals "product" = some (some (.ref f25)))
    (l25 : K.lookup f25 = some ⟨oc25, od25, .func (PySem.W.fnOf "product" "product" (defArgs st_product) (defBody st_product) (defScope st_product) .none kV25 dc25 pm25 an25 cd25 ct25), sl25⟩) (c25 : PySem.W.codeIn K cd25 "product" = true) (k25 : PySem.W.keepIn K (.ref f25) = true) (a26 : PySem.W.nsIn K mainGlobals "through" = some (some (.ref f26)))
    (l26 : K.lookup f26 = some ⟨oc26, od26, .func (PySem.W.fnOf "through" "through" (defArgs st_through) (defBody st_through) (defScope st_through) .none kV26 dc26 pm26 an26 cd26 ct26), sl26⟩) (c26 : PySem.W.codeIn K cd26 "through" = true) (k26 : PySem.W.keepIn K (.ref f26) = true) (a27 : PySem.W.nsIn K mainGlobals "weights" = some (some (.ref f27)))
    (l27 : K.lookup f27 = some ⟨oc27, od27, .func (PySem.W.fnOf "weights" "weights" (defArgs st_weights) (defBody st_weights) (defScope st_weights) .none kV27 dc27 pm27 an27 cd27 ct27), sl27⟩) (c27 : PySem.W.codeIn K cd27 "weights" = true) (k27 : PySem.W.keepIn K (.ref f27) = true) (a28 : PySem.W.findIn K (.ref CDesk) "__init__" = some (some (.ref f28)))
    (i28 : PySem.W.isFn K (.ref f28) = true) (l28 : K.lookup f28 = some ⟨oc28, od28, .func (PySem.W.fnOf "__init__" "Desk.__init__" (defArgs st_Desk___init__) (defBody st_Desk___init__) (defScope st_Desk___init__) .none kV28 dc28 pm28 an28 cd28 ct28), sl28⟩) (c28 : PySem.W.codeIn K cd28 "Desk.__init__" = true) (k28 : PySem.W.keepIn K (.ref f28) = true)
    (a29 : PySem.W.nsIn K mainGlobals "worth" = some (some (.ref f29))) (l29 : K.lookup f29 = some ⟨oc29, od29, .func (PySem.W.fnOf "worth" "worth" (defArgs st_worth) (defBody st_worth) (defScope st_worth) .none kV29 dc29 pm29 an29 cd29 ct29), sl29⟩) (c29 : PySem.W.codeIn K cd29 "worth" = true) (k29 : PySem.W.keepIn K (.ref f29) = true)
    (a30 : PySem.W.nsIn K mainGlobals "dealt" = some (some (.ref f30))) (l30 : K.lookup f30 = some ⟨oc30, od30, .func (PySem.W.fnOf "dealt" "dealt" (defArgs st_dealt) (defBody st_dealt) (defScope st_dealt) .none kV30 dc30 pm30 an30 cd30 ct30), sl30⟩) (c30 : PySem.W.codeIn K cd30 "dealt" = true) (k30 : PySem.W.keepIn K (.ref f30) = true)
    (a31 : PySem.W.findIn K (.ref CDesk) "send" = some (some (.ref f31))) (i31 : PySem.W.isFn K (.ref f31) = true) (l31 : K.lookup f31 = some ⟨oc31, od31, .func (PySem.W.fnOf "send" "Desk.send" (defArgs st_Desk_send) (defBody st_Desk_send) (defScope st_Desk_send) .none kV31 dc31 pm31 an31 cd31 ct31), sl31⟩) (c31 : PySem.W.codeIn K cd31 "Desk.send" = true)
    (k31 : PySem.W.keepIn K (.ref f31) = true) (a32 : PySem.W.findIn K (.ref CDesk) "deal" = some (some (.ref f32))) (i32 : PySem.W.isFn K (.ref f32) = true) (l32 : K.lookup f32 = some ⟨oc32, od32, .func (PySem.W.fnOf "deal" "Desk.deal" (defArgs st_Desk_deal) (defBody st_Desk_deal) (defScope st_Desk_deal) .none kV32 dc32 pm32 an32 cd32 ct32), sl32⟩)
    (c32 : PySem.W.codeIn K cd32 "Desk.deal" = true) (k32 : PySem.W.keepIn K (.ref f32) = true) (a33 : PySem.W.nsIn K mainGlobals "joined" = some (some (.ref f33))) (l33 : K.lookup f33 = some ⟨oc33, od33, .func (PySem.W.fnOf "joined" "joined" (defArgs st_joined) (defBody st_joined) (defScope st_joined) .none kV33 dc33 pm33 an33 cd33 ct33), sl33⟩)
    (c33 : PySem.W.codeIn K cd33 "joined" = true) (k33 : PySem.W.keepIn K (.ref f33) = true) (a34 : PySem.W.findIn K (.ref CDesk) "local" = some (some (.ref f34))) (i34 : PySem.W.isFn K (.ref f34) = true)
    (l34 : K.lookup f34 = some ⟨oc34, od34, .func (PySem.W.fnOf "local" "Desk.local" (defArgs st_Desk_local) (defBody st_Desk_local) (defScope st_Desk_local) .none kV34 dc34 pm34 an34 cd34 ct34), sl34⟩) (c34 : PySem.W.codeIn K cd34 "Desk.local" = true) (k34 : PySem.W.keepIn K (.ref f34) = true) (a35 : PySem.W.findIn K (.ref CDesk) "summed" = some (some (.ref f35)))
    (i35 : PySem.W.isFn K (.ref f35) = true) (l35 : K.lookup f35 = some ⟨oc35, od35, .func (PySem.W.fnOf "summed" "Desk.summed" (defArgs st_Desk_summed) (defBody st_Desk_summed) (defScope st_Desk_summed) .none kV35 dc35 pm35 an35 cd35 ct35), sl35⟩) (c35 : PySem.W.codeIn K cd35 "Desk.summed" = true) (k35 : PySem.W.keepIn K (.ref f35) = true)
    (a36 : PySem.W.findIn K (.ref CDesk) "made" = some (some (.ref f36))) (i36 : PySem.W.isFn K (.ref f36) = true) (l36 : K.lookup f36 = some ⟨oc36, od36, .func (PySem.W.fnOf "made" "Desk.made" (defArgs st_Desk_made) (defBody st_Desk_made) (defScope st_Desk_made) .none kV36 dc36 pm36 an36 cd36 ct36), sl36⟩) (c36 : PySem.W.codeIn K cd36 "Desk.made" = true)
    (k36 : PySem.W.keepIn K (.ref f36) = true) (a37 : PySem.W.findIn K (.ref CDesk) "step" = some (some (.ref f37))) (i37 : PySem.W.isFn K (.ref f37) = true) (l37 : K.lookup f37 = some ⟨oc37, od37, .func (PySem.W.fnOf "step" "Desk.step" (defArgs st_Desk_step) (defBody st_Desk_step) (defScope st_Desk_step) .none kV37 dc37 pm37 an37 cd37 ct37), sl37⟩)
    (c37 : PySem.W.codeIn K cd37 "Desk.step" = true) (k37 : PySem.W.keepIn K (.ref f37) = true) (a38 : PySem.W.nsIn K mainGlobals "run" = some (some (.ref f38))) (l38 : K.lookup f38 = some ⟨oc38, od38, .func (PySem.W.fnOf "run" "run" (defArgs st_run) (defBody st_run) (defScope st_run) .none kV38 dc38 pm38 an38 cd38 ct38), sl38⟩)
    (c38 : PySem.W.codeIn K cd38 "run" = true) (k38 : PySem.W.keepIn K (.ref f38) = true) (a39 : PySem.W.nsIn K mainGlobals "check_hands" = some (some (.ref f39))) (l39 : K.lookup f39 = some ⟨oc39, od39, .func (PySem.W.fnOf "check_hands" "check_hands" (defArgs st_check_hands) (defBody st_check_hands) (defScope st_check_hands) .none kV39 dc39 pm39 an39 cd39 ct39), sl39⟩)
    (c39 : PySem.W.codeIn K cd39 "check_hands" = true) (k39 : PySem.W.keepIn K (.ref f39) = true) (a40 : PySem.W.nsIn K mainGlobals "dealers" = some (some (.ref f40))) (l40 : K.lookup f40 = some ⟨oc40, od40, .func (PySem.W.fnOf "dealers" "dealers" (defArgs st_dealers) (defBody st_dealers) (defScope st_dealers) .none kV40 dc40 pm40 an40 cd40 ct40), sl40⟩)
    (c40 : PySem.W.codeIn K cd40 "dealers" = true) (k40 : PySem.W.keepIn K (.ref f40) = true) (a41 : PySem.W.nsIn K mainGlobals "inputs_used" = some (some (.ref f41))) (l41 : K.lookup f41 = some ⟨oc41, od41, .func (PySem.W.fnOf "inputs_used" "inputs_used" (defArgs st_inputs_used) (defBody st_inputs_used) (defScope st_inputs_used) .none kV41 dc41 pm41 an41 cd41 ct41), sl41⟩)
    (c41 : PySem.W.codeIn K cd41 "inputs_used" = true) (k41 : PySem.W.keepIn K (.ref f41) = true) (a42 : PySem.W.nsIn K mainGlobals "seen" = some (some (.ref f42))) (l42 : K.lookup f42 = some ⟨oc42, od42, .func (PySem.W.fnOf "seen" "seen" (defArgs st_seen) (defBody st_seen) (defScope st_seen) .none kV42 dc42 pm42 an42 cd42 ct42), sl42⟩)
    (c42 : PySem.W.codeIn K cd42 "seen" = true) (k42 : PySem.W.keepIn K (.ref f42) = true) (a43 : PySem.W.nsIn K mainGlobals "law" = some (some (.ref f43))) (l43 : K.lookup f43 = some ⟨oc43, od43, .func (PySem.W.fnOf "law" "law" (defArgs st_law) (defBody st_law) (defScope st_law) .none kV43 dc43 pm43 an43 cd43 ct43), sl43⟩)
    (c43 : PySem.W.codeIn K cd43 "law" = true) (k43 : PySem.W.keepIn K (.ref f43) = true)
    : ∃ fd : FuncData, (∀ (s : Shared) (v : Value), BindsTo s fd ⟨[v], []⟩ [("script", v)]) ∧ ∀ base : Heap, K.In base → base.Ns mainGlobals mg → FnOk l.prog w K mg base (L2.CX l.prog w) 10 fa fd ["script"] (spLaw K) := by
  have e := hfa.symm.trans (PySem.W.mg_of X G a43)
  cases e
  have T : Txt K mg := {
    no := fun x h => by
      have m := List.mem_of_elem_eq_true h
      simp only [List.mem_cons, List.not_mem_nil, or_false] at m
      rcases m with rfl | rfl | rfl | rfl | rfl | rfl | rfl | rfl | rfl | rfl | rfl | rfl | rfl | rfl
      · exact PySem.W.mg_none_of X G z_all
      · exact PySem.W.mg_none_of X G z_bool
      · exact PySem.W.mg_none_of X G z_enumerate
      · exact PySem.W.mg_none_of X G z_int
      · exact PySem.W.mg_none_of X G z_isinstance
      · exact PySem.W.mg_none_of X G z_len
      · exact PySem.W.mg_none_of X G z_list
      · exact PySem.W.mg_none_of X G z_max
      · exact PySem.W.mg_none_of X G z_min
      · exact PySem.W.mg_none_of X G z_range
      · exact PySem.W.mg_none_of X G z_reversed
      · exact PySem.W.mg_none_of X G z_sum
      · exact PySem.W.mg_none_of X G z_tuple
      · exact PySem.W.mg_none_of X G z_zip
    f_Desk_chance := fun C m => by
      have e := m.symm.trans (PySem.W.mg_of X G a_Desk)
      cases e
      exact ⟨⟨pg_Desk, hd_Desk, po_Desk, sa_Desk⟩, n_Desk_chance⟩
    f_Desk_left := fun C m => by
      have e := m.symm.trans (PySem.W.mg_of X G a_Desk)
      cases e
      exact ⟨⟨pg_Desk, hd_Desk, po_Desk, sa_Desk⟩, n_Desk_left⟩
    f_Desk_letters := fun C m => by
      have e := m.symm.trans (PySem.W.mg_of X G a_Desk)
      cases e
      exact ⟨⟨pg_Desk, hd_Desk, po_Desk, sa_Desk⟩, n_Desk_letters⟩
    f_Desk_shares := fun C m => by
      have e := m.symm.trans (PySem.W.mg_of X G a_Desk)
      cases e
      exact ⟨⟨pg_Desk, hd_Desk, po_Desk, sa_Desk⟩, n_Desk_shares⟩
    f_Desk_table := fun C m => by
      have e := m.symm.trans (PySem.W.mg_of X G a_Desk)
      cases e
      exact ⟨⟨pg_Desk, hd_Desk, po_Desk, sa_Desk⟩, n_Desk_table⟩
    f_Desk_weights := fun C m => by
      have e := m.symm.trans (PySem.W.mg_of X G a_Desk)
      cases e
      exact ⟨⟨pg_Desk, hd_Desk, po_Desk, sa_Desk⟩, n_Desk_weights⟩
    f_Table_few := fun C m => by
      have e := m.symm.trans (PySem.W.mg_of X G a_Table)
      cases e
      exact ⟨⟨pg_Table, hd_Table, po_Table, sa_Table⟩, n_Table_few⟩
    f_Table_hands := fun C m => by
      have e := m.symm.trans (PySem.W.mg_of X G a_Table)
      cases e
      exact ⟨⟨pg_Table, hd_Table, po_Table, sa_Table⟩, n_Table_hands⟩
    f_Table_prime := fun C m => by
      have e := m.symm.trans (PySem.W.mg_of X G a_Table)
      cases e
      exact ⟨⟨pg_Table, hd_Table, po_Table, sa_Table⟩, n_Table_prime⟩
    e_AlikePoints := ⟨_, PySem.W.mg_of X G a_AlikePoints, x_AlikePoints, k_AlikePoints, s_AlikePoints, t_AlikePoints⟩
    e_BadChance := ⟨_, PySem.W.mg_of X G a_BadChance, x_BadChance, k_BadChance, s_BadChance, t_BadChance⟩
    e_BadHands := ⟨_, PySem.W.mg_of X G a_BadHands, x_BadHands, k_BadHands, s_BadHands, t_BadHands⟩
    e_BadInputs := ⟨_, PySem.W.mg_of X G a_BadInputs, x_BadInputs, k_BadInputs, s_BadInputs, t_BadInputs⟩
    e_BadSteps := ⟨_, PySem.W.mg_of X G a_BadSteps, x_BadSteps, k_BadSteps, s_BadSteps, t_BadSteps⟩
    e_BadTable := ⟨_, PySem.W.mg_of X G a_BadTable, x_BadTable, k_BadTable, s_BadTable, t_BadTable⟩
    e_Nought := ⟨_, PySem.W.mg_of X G a_Nought, x_Nought, k_Nought, s_Nought, t_Nought⟩
    g_PRIMES := ⟨_, PySem.W.mg_of X G a_PRIMES, fun _ => .inr ⟨_, _, _, l_PRIMES, rfl, rfl, by show 9 ≤ sizeLine; rw [sizeLine_eq]; decide, .cons ⟨_, rfl⟩ (.cons ⟨_, rfl⟩ (.cons ⟨_, rfl⟩ (.cons ⟨_, rfl⟩ (.cons ⟨_, rfl⟩ (.cons ⟨_, rfl⟩ (.cons ⟨_, rfl⟩ (.cons ⟨_, rfl⟩ (.cons ⟨_, rfl⟩ .nil))))))))⟩⟩ }
  have F1 := fun_mk (st := st__law_cell_at) l1 c1 k1
  have b1 := F1.binds (ps := ["script", "k"]) fun _ _ _ _ _ _ us hl => match us, hl with | [_, _], _ => rfl
  have s1 : Sits K mg "_law_cell_at" st__law_cell_at ["script", "k"] := ⟨_, _, F1, PySem.W.mg_of X G a1, b1⟩
  have F2 := fun_mk (st := st__law_mix) l2 c2 k2
  have b2 := F2.binds (ps := ["cell", "k", "many"]) fun _ _ _ _ _ _ us hl => match us, hl with | [_, _, _], _ => rfl
  have s2 : Sits K mg "_law_mix" st__law_mix ["cell", "k", "many"] := ⟨_, _, F2, PySem.W.mg_of X G a2, b2⟩
  have F3 := fun_mk (st := st__law_needs) l3 c3 k3
  have b3 := F3.binds (ps := ["steps", "table"]) fun _ _ _ _ _ _ us hl => match us, hl with | [_, _], _ => rfl
  have s3 : Sits K mg "_law_needs" st__law_needs ["steps", "table"] := ⟨_, _, F3, PySem.W.mg_of X G a3, b3⟩
  have F4 := fun_mk (st := st__law_chance_by) l4 c4 k4
  have b4 := F4.binds (ps := ["cell", "steps", "table"]) fun _ _ _ _ _ _ us hl => match us, hl with | [_, _, _], _ => rfl
  have s4 : Sits K mg "_law_chance_by" st__law_chance_by ["cell", "steps", "table"] := ⟨_, _, F4, PySem.W.mg_of X G a4, b4⟩
  have F5 := fun_mk (st := st__law_used) l5 c5 k5
  have b5 := F5.binds (ps := ["steps", "hand"]) fun _ _ _ _ _ _ us hl => match us, hl with | [_, _], _ => rfl
  have s5 : Sits K mg "_law_used" st__law_used ["steps", "hand"] := ⟨_, _, F5, PySem.W.mg_of X G a5, b5⟩
  have F6 := fun_mk (st := st__law_inputs_by) l6 c6 k6
  have b6 := F6.binds (ps := ["cell", "steps", "table"]) fun _ _ _ _ _ _ us hl => match us, hl with | [_, _, _], _ => rfl
  have s6 : Sits K mg "_law_inputs_by" st__law_inputs_by ["cell", "steps", "table"] := ⟨_, _, F6, PySem.W.mg_of X G a6, b6⟩
  have F7 := fun_mk (st := st__law_own) l7 c7 k7
  have b7 := F7.binds (ps := ["table", "steps", "chance", "some"]) fun _ _ _ _ _ _ us hl => match us, hl with | [_, _, _, _], _ => rfl
  have s7 : Sits K mg "_law_own" st__law_own ["table", "steps", "chance", "some"] := ⟨_, _, F7, PySem.W.mg_of X G a7, b7⟩
  have F8 := fun_mk (st := st__law_whole) l8 c8 k8
  have b8 := F8.binds (ps := ["found"]) fun _ _ _ _ _ _ us hl => match us, hl with | [_], _ => rfl
  have s8 : Sits K mg "_law_whole" st__law_whole ["found"] := ⟨_, _, F8, PySem.W.mg_of X G a8, b8⟩
  have F9 := fun_mk (st := st__law_row) l9 c9 k9
  have b9 := F9.binds (ps := ["found", "due"]) fun _ _ _ _ _ _ us hl => match us, hl with | [_, _], _ => rfl
  have s9 : Sits K mg "_law_row" st__law_row ["found", "due"] := ⟨_, _, F9, PySem.W.mg_of X G a9, b9⟩
  have F10 := fun_mk (st := st__law_step_by) l10 c10 k10
  have b10 := F10.binds (ps := ["cell", "at", "table"]) fun _ _ _ _ _ _ us hl => match us, hl with | [_, _, _], _ => rfl
  have s10 : Sits K mg "_law_step_by" st__law_step_by ["cell", "at", "table"] := ⟨_, _, F10, PySem.W.mg_of X G a10, b10⟩
  have F11 := fun_mk (st := st__law_steps_by) l11 c11 k11
  have b11 := F11.binds (ps := ["script", "start", "many", "table"]) fun _ _ _ _ _ _ us hl => match us, hl with | [_, _, _, _], _ => rfl
  have s11 : Sits K mg "_law_steps_by" st__law_steps_by ["script", "start", "many", "table"] := ⟨_, _, F11, PySem.W.mg_of X G a11, b11⟩
  have F12 := fun_mk (st := st_Table___init__) l12 c12 k12
  have b12 := F12.binds (ps := ["self", "prime", "hands", "few"]) fun _ _ _ _ _ _ us hl => match us, hl with | [_, _, _, _], _ => rfl
  have s12 : SitsM K "__init__" "Table.__init__" st_Table___init__ ["self", "prime", "hands", "few"] f12 := ⟨_, F12, b12⟩
  have F13 := fun_mk (st := st__law_table_by) l13 c13 k13
  have b13 := F13.binds (ps := ["cell"]) fun _ _ _ _ _ _ us hl => match us, hl with | [_], _ => rfl
  have s13 : Sits K mg "_law_table_by" st__law_table_by ["cell"] := ⟨_, _, F13, PySem.W.mg_of X G a13, b13⟩
  have F14 := fun_mk (st := st_is_number) l14 c14 k14
  have b14 := F14.binds (ps := ["table", "number"]) fun _ _ _ _ _ _ us hl => match us, hl with | [_, _], _ => rfl
  have s14 : Sits K mg "is_number" st_is_number ["table", "number"] := ⟨_, _, F14, PySem.W.mg_of X G a14, b14⟩
  have F15 := fun_mk (st := st_step_right) l15 c15 k15
  have b15 := F15.binds (ps := ["table", "step", "at"]) fun _ _ _ _ _ _ us hl => match us, hl with | [_, _, _], _ => rfl
  have s15 : Sits K mg "step_right" st_step_right ["table", "step", "at"] := ⟨_, _, F15, PySem.W.mg_of X G a15, b15⟩
  have F16 := fun_mk (st := st_right) l16 c16 k16
  have b16 := F16.binds (ps := ["table", "steps"]) fun _ _ _ _ _ _ us hl => match us, hl with | [_, _], _ => rfl
  have s16 : Sits K mg "right" st_right ["table", "steps"] := ⟨_, _, F16, PySem.W.mg_of X G a16, b16⟩
  have F17 := fun_mk (st := st_check_steps) l17 c17 k17
  have b17 := F17.binds (ps := ["table", "steps"]) fun _ _ _ _ _ _ us hl => match us, hl with | [_, _], _ => rfl
  have s17 : Sits K mg "check_steps" st_check_steps ["table", "steps"] := ⟨_, _, F17, PySem.W.mg_of X G a17, b17⟩
  have F18 := fun_mk (st := st_step_needs) l18 c18 k18
  have b18 := F18.binds (ps := ["table", "step"]) fun _ _ _ _ _ _ us hl => match us, hl with | [_, _], _ => rfl
  have s18 : Sits K mg "step_needs" st_step_needs ["table", "step"] := ⟨_, _, F18, PySem.W.mg_of X G a18, b18⟩
  have F19 := fun_mk (st := st_needs) l19 c19 k19
  have b19 := F19.binds (ps := ["table", "steps"]) fun _ _ _ _ _ _ us hl => match us, hl with | [_, _], _ => rfl
  have s19 : Sits K mg "needs" st_needs ["table", "steps"] := ⟨_, _, F19, PySem.W.mg_of X G a19, b19⟩
  have F20 := fun_mk (st := st_check_chance) l20 c20 k20
  have b20 := F20.binds (ps := ["table", "steps", "chance"]) fun _ _ _ _ _ _ us hl => match us, hl with | [_, _, _], _ => rfl
  have s20 : Sits K mg "check_chance" st_check_chance ["table", "steps", "chance"] := ⟨_, _, F20, PySem.W.mg_of X G a20, b20⟩
  have F21 := fun_mk (st := st_used) l21 c21 k21
  have b21 := F21.binds (ps := ["steps", "hand"]) fun _ _ _ _ _ _ us hl => match us, hl with | [_, _], _ => rfl
  have s21 : Sits K mg "used" st_used ["steps", "hand"] := ⟨_, _, F21, PySem.W.mg_of X G a21, b21⟩
  have F22 := fun_mk (st := st_check_inputs) l22 c22 k22
  have b22 := F22.binds (ps := ["table", "steps", "inputs"]) fun _ _ _ _ _ _ us hl => match us, hl with | [_, _, _], _ => rfl
  have s22 : Sits K mg "check_inputs" st_check_inputs ["table", "steps", "inputs"] := ⟨_, _, F22, PySem.W.mg_of X G a22, b22⟩
  have F23 := fun_mk (st := st_check_all) l23 c23 k23
  have b23 := F23.binds (ps := ["table", "steps", "inputs", "chance"]) fun _ _ _ _ _ _ us hl => match us, hl with | [_, _, _, _], _ => rfl
  have s23 : Sits K mg "check_all" st_check_all ["table", "steps", "inputs", "chance"] := ⟨_, _, F23, PySem.W.mg_of X G a23, b23⟩
  have F24 := fun_mk (st := st_back) l24 c24 k24
  have b24 := F24.binds (ps := ["table", "number"]) fun _ _ _ _ _ _ us hl => match us, hl with | [_, _], _ => rfl
  have s24 : Sits K mg "back" st_back ["table", "number"] := ⟨_, _, F24, PySem.W.mg_of X G a24, b24⟩
  have F25 := fun_mk (st := st_product) l25 c25 k25
  have b25 := F25.binds (ps := ["table", "row", "other"]) fun _ _ _ _ _ _ us hl => match us, hl with | [_, _, _], _ => rfl
  have s25 : Sits K mg "product" st_product ["table", "row", "other"] := ⟨_, _, F25, PySem.W.mg_of X G a25, b25⟩
  have F26 := fun_mk (st := st_through) l26 c26 k26
  have b26 := F26.binds (ps := ["table", "points"]) fun _ _ _ _ _ _ us hl => match us, hl with | [_, _], _ => rfl
  have s26 : Sits K mg "through" st_through ["table", "points"] := ⟨_, _, F26, PySem.W.mg_of X G a26, b26⟩
  have F27 := fun_mk (st := st_weights) l27 c27 k27
  have b27 := F27.binds (ps := ["table"]) fun _ _ _ _ _ _ us hl => match us, hl with | [_], _ => rfl
  have s27 : Sits K mg "weights" st_weights ["table"] := ⟨_, _, F27, PySem.W.mg_of X G a27, b27⟩
  have F28 := fun_mk (st := st_Desk___init__) l28 c28 k28
  have b28 := F28.binds (ps := ["self", "table", "inputs", "chance"]) fun _ _ _ _ _ _ us hl => match us, hl with | [_, _, _, _], _ => rfl
  have s28 : SitsM K "__init__" "Desk.__init__" st_Desk___init__ ["self", "table", "inputs", "chance"] f28 := ⟨_, F28, b28⟩
  have F29 := fun_mk (st := st_worth) l29 c29 k29
  have b29 := F29.binds (ps := ["table", "row", "at"]) fun _ _ _ _ _ _ us hl => match us, hl with | [_, _, _], _ => rfl
  have s29 : Sits K mg "worth" st_worth ["table", "row", "at"] := ⟨_, _, F29, PySem.W.mg_of X G a29, b29⟩
  have F30 := fun_mk (st := st_dealt) l30 c30 k30
  have b30 := F30.binds (ps := ["table", "number", "chance"]) fun _ _ _ _ _ _ us hl => match us, hl with | [_, _, _], _ => rfl
  have s30 : Sits K mg "dealt" st_dealt ["table", "number", "chance"] := ⟨_, _, F30, PySem.W.mg_of X G a30, b30⟩
  have F31 := fun_mk (st := st_Desk_send) l31 c31 k31
  have b31 := F31.binds (ps := ["self", "hand", "numbers"]) fun _ _ _ _ _ _ us hl => match us, hl with | [_, _, _], _ => rfl
  have s31 : SitsM K "send" "Desk.send" st_Desk_send ["self", "hand", "numbers"] f31 := ⟨_, F31, b31⟩
  have F32 := fun_mk (st := st_Desk_deal) l32 c32 k32
  have b32 := F32.binds (ps := ["self", "hand", "number"]) fun _ _ _ _ _ _ us hl => match us, hl with | [_, _, _], _ => rfl
  have s32 : SitsM K "deal" "Desk.deal" st_Desk_deal ["self", "hand", "number"] f32 := ⟨_, F32, b32⟩
  have F33 := fun_mk (st := st_joined) l33 c33 k33
  have b33 := F33.binds (ps := ["table", "step", "one", "two"]) fun _ _ _ _ _ _ us hl => match us, hl with | [_, _, _, _], _ => rfl
  have s33 : Sits K mg "joined" st_joined ["table", "step", "one", "two"] := ⟨_, _, F33, PySem.W.mg_of X G a33, b33⟩
  have F34 := fun_mk (st := st_Desk_local) l34 c34 k34
  have b34 := F34.binds (ps := ["self", "step"]) fun _ _ _ _ _ _ us hl => match us, hl with | [_, _], _ => rfl
  have s34 : SitsM K "local" "Desk.local" st_Desk_local ["self", "step"] f34 := ⟨_, F34, b34⟩
  have F35 := fun_mk (st := st_Desk_summed) l35 c35 k35
  have b35 := F35.binds (ps := ["self", "lists", "by"]) fun _ _ _ _ _ _ us hl => match us, hl with | [_, _, _], _ => rfl
  have s35 : SitsM K "summed" "Desk.summed" st_Desk_summed ["self", "lists", "by"] f35 := ⟨_, F35, b35⟩
  have F36 := fun_mk (st := st_Desk_made) l36 c36 k36
  have b36 := F36.binds (ps := ["self", "step"]) fun _ _ _ _ _ _ us hl => match us, hl with | [_, _], _ => rfl
  have s36 : SitsM K "made" "Desk.made" st_Desk_made ["self", "step"] f36 := ⟨_, F36, b36⟩
  have F37 := fun_mk (st := st_Desk_step) l37 c37 k37
  have b37 := F37.binds (ps := ["self", "step"]) fun _ _ _ _ _ _ us hl => match us, hl with | [_, _], _ => rfl
  have s37 : SitsM K "step" "Desk.step" st_Desk_step ["self", "step"] f37 := ⟨_, F37, b37⟩
  have F38 := fun_mk (st := st_run) l38 c38 k38
  have b38 := F38.binds (ps := ["table", "steps", "inputs", "chance"]) fun _ _ _ _ _ _ us hl => match us, hl with | [_, _, _, _], _ => rfl
  have s38 : Sits K mg "run" st_run ["table", "steps", "inputs", "chance"] := ⟨_, _, F38, PySem.W.mg_of X G a38, b38⟩
  have F39 := fun_mk (st := st_check_hands) l39 c39 k39
  have b39 := F39.binds (ps := ["table", "some"]) fun _ _ _ _ _ _ us hl => match us, hl with | [_, _], _ => rfl
  have s39 : Sits K mg "check_hands" st_check_hands ["table", "some"] := ⟨_, _, F39, PySem.W.mg_of X G a39, b39⟩
  have F40 := fun_mk (st := st_dealers) l40 c40 k40
  have b40 := F40.binds (ps := ["table", "step"]) fun _ _ _ _ _ _ us hl => match us, hl with | [_, _], _ => rfl
  have s40 : Sits K mg "dealers" st_dealers ["table", "step"] := ⟨_, _, F40, PySem.W.mg_of X G a40, b40⟩
  have F41 := fun_mk (st := st_inputs_used) l41 c41 k41
  have b41 := F41.binds (ps := ["steps", "inputs", "some"]) fun _ _ _ _ _ _ us hl => match us, hl with | [_, _, _], _ => rfl
  have s41 : Sits K mg "inputs_used" st_inputs_used ["steps", "inputs", "some"] := ⟨_, _, F41, PySem.W.mg_of X G a41, b41⟩
  have F42 := fun_mk (st := st_seen) l42 c42 k42
  have b42 := F42.binds (ps := ["table", "steps", "inputs", "chance", "some"]) fun _ _ _ _ _ _ us hl => match us, hl with | [_, _, _, _, _], _ => rfl
  have s42 : Sits K mg "seen" st_seen ["table", "steps", "inputs", "chance", "some"] := ⟨_, _, F42, PySem.W.mg_of X G a42, b42⟩
  have F43 := fun_mk (st := st_law) l43 c43 k43
  refine ⟨PySem.W.fnOf "law" "law" (defArgs st_law) (defBody st_law) (defScope st_law) .none kV43 dc43 pm43 an43 cd43 ct43, fun s v => .of_eq rfl, fun base _ _ => ?_⟩
  have D__law_cell_at := ok__law_cell_at (P := l.prog) (w := w) (base := base) s1 T 
  have D__law_mix := ok__law_mix (P := l.prog) (w := w) (base := base) s2 T 
  have D__law_needs := ok__law_needs (P := l.prog) (w := w) (base := base) s3 T 
  have D__law_chance_by := ok__law_chance_by (P := l.prog) (w := w) (base := base) s4 T D__law_mix D__law_needs
  have D__law_used := ok__law_used (P := l.prog) (w := w) (base := base) s5 T 
  have D__law_inputs_by := ok__law_inputs_by (P := l.prog) (w := w) (base := base) s6 T D__law_mix D__law_used
  have D__law_own := ok__law_own (P := l.prog) (w := w) (base := base) s7 T 
  have D__law_whole := ok__law_whole (P := l.prog) (w := w) (base := base) s8 T 
  have D__law_row := ok__law_row (P := l.prog) (w := w) (base := base) s9 T D__law_whole
  have D__law_step_by := ok__law_step_by (P := l.prog) (w := w) (base := base) s10 T D__law_mix
  have D__law_steps_by := ok__law_steps_by (P := l.prog) (w := w) (base := base) s11 T D__law_cell_at D__law_step_by
  obtain ⟨fm12, G12, bm12⟩ := ok_Table___init__ (P := l.prog) (w := w) (base := base) s12 T 
  have C_Table : ClsOk l.prog w K mg base 1 (3 + 1) "Table" ["self", "prime", "hands", "few"] S_Table___init__ := ⟨_, _, _, ⟨mk_Table, a12, i12, kc_Table⟩, G12, PySem.W.mg_of X G a_Table, bm12⟩
  have D__law_table_by := ok__law_table_by (P := l.prog) (w := w) (base := base) s13 T C_Table
  have D_is_number := ok_is_number (P := l.prog) (w := w) (base := base) s14 T 
  have D_step_right := ok_step_right (P := l.prog) (w := w) (base := base) s15 T D_is_number
  have D_right := ok_right (P := l.prog) (w := w) (base := base) s16 T D_step_right
  have D_check_steps := ok_check_steps (P := l.prog) (w := w) (base := base) s17 T D_right
  have D_step_needs := ok_step_needs (P := l.prog) (w := w) (base := base) s18 T 
  have D_needs := ok_needs (P := l.prog) (w := w) (base := base) s19 T D_check_steps D_step_needs
  have D_check_chance := ok_check_chance (P := l.prog) (w := w) (base := base) s20 T D_is_number D_needs
  have D_used := ok_used (P := l.prog) (w := w) (base := base) s21 T 
  have D_check_inputs := ok_check_inputs (P := l.prog) (w := w) (base := base) s22 T D_is_number D_used
  have D_check_all := ok_check_all (P := l.prog) (w := w) (base := base) s23 T D_check_chance D_check_inputs D_check_steps
  have D_back := ok_back (P := l.prog) (w := w) (base := base) s24 T 
  have D_product := ok_product (P := l.prog) (w := w) (base := base) s25 T 
  have D_through := ok_through (P := l.prog) (w := w) (base := base) s26 T D_back D_product
  have D_weights := ok_weights (P := l.prog) (w := w) (base := base) s27 T D_through
  obtain ⟨fm28, G28, bm28⟩ := ok_Desk___init__ (P := l.prog) (w := w) (base := base) s28 T D_weights
  have C_Desk : ClsOk l.prog w K mg base 4 (3 + 1) "Desk" ["self", "table", "inputs", "chance"] S_Desk___init__ := ⟨_, _, _, ⟨mk_Desk, a28, i28, kc_Desk⟩, G28, PySem.W.mg_of X G a_Desk, bm28⟩
  have D_worth := ok_worth (P := l.prog) (w := w) (base := base) s29 T 
  have D_dealt := ok_dealt (P := l.prog) (w := w) (base := base) s30 T D_worth
  obtain ⟨fm31, G31, bm31⟩ := ok_Desk_send (P := l.prog) (w := w) (base := base) s31 T 
  have M_Desk_send : MDef l.prog w K mg base 1 3 "Desk" "send" ["self", "hand", "numbers"] S_Desk_send := ⟨_, _, _, PySem.W.mg_of X G a_Desk, ⟨pg_Desk, hd_Desk, po_Desk, sa_Desk⟩, ⟨a31, i31, k31⟩, G31, bm31⟩
  obtain ⟨fm32, G32, bm32⟩ := ok_Desk_deal (P := l.prog) (w := w) (base := base) s32 T D_dealt M_Desk_send
  have M_Desk_deal : MDef l.prog w K mg base 3 3 "Desk" "deal" ["self", "hand", "number"] S_Desk_deal := ⟨_, _, _, PySem.W.mg_of X G a_Desk, ⟨pg_Desk, hd_Desk, po_Desk, sa_Desk⟩, ⟨a32, i32, k32⟩, G32, bm32⟩
  have D_joined := ok_joined (P := l.prog) (w := w) (base := base) s33 T 
  obtain ⟨fm34, G34, bm34⟩ := ok_Desk_local (P := l.prog) (w := w) (base := base) s34 T D_joined
  have M_Desk_local : MDef l.prog w K mg base 2 2 "Desk" "local" ["self", "step"] S_Desk_local := ⟨_, _, _, PySem.W.mg_of X G a_Desk, ⟨pg_Desk, hd_Desk, po_Desk, sa_Desk⟩, ⟨a34, i34, k34⟩, G34, bm34⟩
  obtain ⟨fm35, G35, bm35⟩ := ok_Desk_summed (P := l.prog) (w := w) (base := base) s35 T 
  have M_Desk_summed : MDef l.prog w K mg base 1 3 "Desk" "summed" ["self", "lists", "by"] S_Desk_summed := ⟨_, _, _, PySem.W.mg_of X G a_Desk, ⟨pg_Desk, hd_Desk, po_Desk, sa_Desk⟩, ⟨a35, i35, k35⟩, G35, bm35⟩
  obtain ⟨fm36, G36, bm36⟩ := ok_Desk_made (P := l.prog) (w := w) (base := base) s36 T M_Desk_deal M_Desk_local M_Desk_send M_Desk_summed
  have M_Desk_made : MDef l.prog w K mg base 4 2 "Desk" "made" ["self", "step"] S_Desk_made := ⟨_, _, _, PySem.W.mg_of X G a_Desk, ⟨pg_Desk, hd_Desk, po_Desk, sa_Desk⟩, ⟨a36, i36, k36⟩, G36, bm36⟩
  obtain ⟨fm37, G37, bm37⟩ := ok_Desk_step (P := l.prog) (w := w) (base := base) s37 T M_Desk_made
  have M_Desk_step : MDef l.prog w K mg base 5 2 "Desk" "step" ["self", "step"] S_Desk_step := ⟨_, _, _, PySem.W.mg_of X G a_Desk, ⟨pg_Desk, hd_Desk, po_Desk, sa_Desk⟩, ⟨a37, i37, k37⟩, G37, bm37⟩
  have D_run := ok_run (P := l.prog) (w := w) (base := base) s38 T D_check_all C_Desk M_Desk_step M_Desk_summed
  have D_check_hands := ok_check_hands (P := l.prog) (w := w) (base := base) s39 T 
  have D_dealers := ok_dealers (P := l.prog) (w := w) (base := base) s40 T 
  have D_inputs_used := ok_inputs_used (P := l.prog) (w := w) (base := base) s41 T D_used
  have D_seen := ok_seen (P := l.prog) (w := w) (base := base) s42 T D_check_all D_check_hands D_dealers D_inputs_used D_run
  exact law_ok (ok_law F43 T D__law_cell_at D__law_chance_by D__law_inputs_by D__law_mix D__law_own D__law_row D__law_steps_by D__law_table_by D__law_used D_run D_seen) VL.law15
end K15
open PySem PySem.W PyProof.Rows
set_option maxRecDepth 100000 in
set_option maxHeartbeats 0 in
theorem PySem.Challenge.cw_veilsum_k15_what_hands_see_holds : PySem.Challenge.rw_veilsum_k15_what_hands_see.Holds := by
  w_on; refine VL.early fun said => ?_; k_head; (case hw => w_witness2)
  k_fill
  refine L2.walk_of (l := PySem.Challenge.rw_veilsum_k15_what_hands_see) (n := 63) (k := 10) (x := "script") (CX := fun w => L2.CX PySem.Challenge.rw_veilsum_k15_what_hands_see.prog w) (sp := fun w => VL.spLaw _) rfl (by decide) rfl ⟨rfl, by decide, by decide⟩ (fun w h Y => PySem.W.kIn_of Y) ?F (fun _ _ a ns hl _ hS => ⟨a, ns, rfl, hS, hl, fun _ => rfl⟩) (fun _ _ _ _ _ h => by obtain ⟨_, _, _, _, _, _, _, _, _, _, _, _, z⟩ := h; exact z.elim)
  case F =>
    intro w mg fa h KX G hmg
    refine' K15.all_mk KX G hmg ?a_Desk ?pg_Desk ?hd_Desk ?po_Desk ?sa_Desk ?mk_Desk ?kc_Desk ?a_Table ?pg_Table ?hd_Table ?po_Table ?sa_Table ?mk_Table ?kc_Table ?n_Desk_chance ?n_Desk_left ?n_Desk_letters ?n_Desk_shares ?n_Desk_table ?n_Desk_weights ?n_Table_few ?n_Table_hands ?n_Table_prime ?a_AlikePoints ?x_AlikePoints ?k_AlikePoints ?s_AlikePoints ?t_AlikePoints ?a_BadChance ?x_BadChance ?k_BadChance ?s_BadChance ?t_BadChance ?a_BadHands ?x_BadHands ?k_BadHands ?s_BadHands ?t_BadHands ?a_BadInputs ?x_BadInputs ?k_BadInputs ?s_BadInputs ?t_BadInputs ?a_BadSteps ?x_BadSteps ?k_BadSteps ?s_BadSteps ?t_BadSteps ?a_BadTable ?x_BadTable ?k_BadTable ?s_BadTable ?t_BadTable ?a_Nought ?x_Nought ?k_Nought ?s_Nought ?t_Nought ?z_all ?z_bool ?z_enumerate ?z_int ?z_isinstance ?z_len ?z_list ?z_max ?z_min ?z_range ?z_reversed ?z_sum ?z_tuple ?z_zip ?a_PRIMES ?l_PRIMES ?a1 ?l1 ?c1 ?k1 ?a2 ?l2 ?c2 ?k2 ?a3 ?l3 ?c3 ?k3 ?a4 ?l4 ?c4 ?k4 ?a5 ?l5 ?c5 ?k5 ?a6 ?l6 ?c6 ?k6 ?a7 ?l7 ?c7 ?k7 ?a8 ?l8 ?c8 ?k8 ?a9 ?l9 ?c9 ?k9 ?a10 ?l10 ?c10 ?k10 ?a11 ?l11 ?c11 ?k11 ?a12 ?i12 ?l12 ?c12 ?k12 ?a13 ?l13 ?c13 ?k13 ?a14 ?l14 ?c14 ?k14 ?a15 ?l15 ?c15 ?k15 ?a16 ?l16 ?c16 ?k16 ?a17 ?l17 ?c17 ?k17 ?a18 ?l18 ?c18 ?k18 ?a19 ?l19 ?c19 ?k19 ?a20 ?l20 ?c20 ?k20 ?a21 ?l21 ?c21 ?k21 ?a22 ?l22 ?c22 ?k22 ?a23 ?l23 ?c23 ?k23 ?a24 ?l24 ?c24 ?k24 ?a25 ?l25 ?c25 ?k25 ?a26 ?l26 ?c26 ?k26 ?a27 ?l27 ?c27 ?k27 ?a28 ?i28 ?l28 ?c28 ?k28 ?a29 ?l29 ?c29 ?k29 ?a30 ?l30 ?c30 ?k30 ?a31 ?i31 ?l31 ?c31 ?k31 ?a32 ?i32 ?l32 ?c32 ?k32 ?a33 ?l33 ?c33 ?k33 ?a34 ?i34 ?l34 ?c34 ?k34 ?a35 ?i35 ?l35 ?c35 ?k35 ?a36 ?i36 ?l36 ?c36 ?k36 ?a37 ?i37 ?l37 ?c37 ?k37 ?a38 ?l38 ?c38 ?k38 ?a39 ?l39 ?c39 ?k39 ?a40 ?l40 ?c40 ?k40 ?a41 ?l41 ?c41 ?k41 ?a42 ?l42 ?c42 ?k42 ?a43 ?l43 ?c43 ?k43
    (case a_Desk => k_is)
    (case pg_Desk => k_is)
    (case hd_Desk => k_is)
    (case po_Desk => k_is)
    (case sa_Desk => k_is)
    (case mk_Desk => k_is)
    (case kc_Desk => k_is)
    (case a_Table => k_is)
    (case pg_Table => k_is)
    (case hd_Table => k_is)
    (case po_Table => k_is)
    (case sa_Table => k_is)
    (case mk_Table => k_is)
    (case kc_Table => k_is)
    (case n_Desk_chance => k_is)
    (case n_Desk_left => k_is)
    (case n_Desk_letters => k_is)
    (case n_Desk_shares => k_is)
    (case n_Desk_table => k_is)
    (case n_Desk_weights => k_is)
    (case n_Table_few => k_is)
    (case n_Table_hands => k_is)
    (case n_Table_prime => k_is)
    (case a_AlikePoints => k_is)
    (case x_AlikePoints => k_exc)
    (case k_AlikePoints => k_is)
    (case s_AlikePoints => k_is)
    (case t_AlikePoints => k_is)
    (case a_BadChance => k_is)
    (case x_BadChance => k_exc)
    (case k_BadChance => k_is)
    (case s_BadChance => k_is)
    (case t_BadChance => k_is)
    (case a_BadHands => k_is)
    (case x_BadHands => k_exc)
    (case k_BadHands => k_is)
    (case s_BadHands => k_is)
    (case t_BadHands => k_is)
    (case a_BadInputs => k_is)
    (case x_BadInputs => k_exc)
    (case k_BadInputs => k_is)
    (case s_BadInputs => k_is)
    (case t_BadInputs => k_is)
    (case a_BadSteps => k_is)
    (case x_BadSteps => k_exc)
    (case k_BadSteps => k_is)
    (case s_BadSteps => k_is)
    (case t_BadSteps => k_is)
    (case a_BadTable => k_is)
    (case x_BadTable => k_exc)
    (case k_BadTable => k_is)
    (case s_BadTable => k_is)
    (case t_BadTable => k_is)
    (case a_Nought => k_is)
    (case x_Nought => k_exc)
    (case k_Nought => k_is)
    (case s_Nought => k_is)
    (case t_Nought => k_is)
    (case z_all => k_is)
    (case z_bool => k_is)
    (case z_enumerate => k_is)
    (case z_int => k_is)
    (case z_isinstance => k_is)
    (case z_len => k_is)
    (case z_list => k_is)
    (case z_max => k_is)
    (case z_min => k_is)
    (case z_range => k_is)
    (case z_reversed => k_is)
    (case z_sum => k_is)
    (case z_tuple => k_is)
    (case z_zip => k_is)
    (case a_PRIMES => k_is)
    (case l_PRIMES => k_is)
    (case a1 => k_is)
    (case l1 => k_is)
    (case c1 => k_is)
    (case k1 => k_is)
    (case a2 => k_is)
    (case l2 => k_is)
    (case c2 => k_is)
    (case k2 => k_is)
    (case a3 => k_is)
    (case l3 => k_is)
    (case c3 => k_is)
    (case k3 => k_is)
    (case a4 => k_is)
    (case l4 => k_is)
    (case c4 => k_is)
    (case k4 => k_is)
    (case a5 => k_is)
    (case l5 => k_is)
    (case c5 => k_is)
    (case k5 => k_is)
    (case a6 => k_is)
    (case l6 => k_is)
    (case c6 => k_is)
    (case k6 => k_is)
    (case a7 => k_is)
    (case l7 => k_is)
    (case c7 => k_is)
    (case k7 => k_is)
    (case a8 => k_is)
    (case l8 => k_is)
    (case c8 => k_is)
    (case k8 => k_is)
    (case a9 => k_is)
    (case l9 => k_is)
    (case c9 => k_is)
    (case k9 => k_is)
    (case a10 => k_is)
    (case l10 => k_is)
    (case c10 => k_is)
    (case k10 => k_is)
    (case a11 => k_is)
    (case l11 => k_is)
    (case c11 => k_is)
    (case k11 => k_is)
    (case a12 => k_is)
    (case i12 => k_is)
    (case l12 => k_is)
    (case c12 => k_is)
    (case k12 => k_is)
    (case a13 => k_is)
    (case l13 => k_is)
    (case c13 => k_is)
    (case k13 => k_is)
    (case a14 => k_is)
    (case l14 => k_is)
    (case c14 => k_is)
    (case k14 => k_is)
    (case a15 => k_is)
    (case l15 => k_is)
    (case c15 => k_is)
    (case k15 => k_is)
    (case a16 => k_is)
    (case l16 => k_is)
    (case c16 => k_is)
    (case k16 => k_is)
    (case a17 => k_is)
    (case l17 => k_is)
    (case c17 => k_is)
    (case k17 => k_is)
    (case a18 => k_is)
    (case l18 => k_is)
    (case c18 => k_is)
    (case k18 => k_is)
    (case a19 => k_is)
    (case l19 => k_is)
    (case c19 => k_is)
    (case k19 => k_is)
    (case a20 => k_is)
    (case l20 => k_is)
    (case c20 => k_is)
    (case k20 => k_is)
    (case a21 => k_is)
    (case l21 => k_is)
    (case c21 => k_is)
    (case k21 => k_is)
    (case a22 => k_is)
    (case l22 => k_is)
    (case c22 => k_is)
    (case k22 => k_is)
    (case a23 => k_is)
    (case l23 => k_is)
    (case c23 => k_is)
    (case k23 => k_is)
    (case a24 => k_is)
    (case l24 => k_is)
    (case c24 => k_is)
    (case k24 => k_is)
    (case a25 => k_is)
    (case l25 => k_is)
    (case c25 => k_is)
    (case k25 => k_is)
    (case a26 => k_is)
    (case l26 => k_is)
    (case c26 => k_is)
    (case k26 => k_is)
    (case a27 => k_is)
    (case l27 => k_is)
    (case c27 => k_is)
    (case k27 => k_is)
    (case a28 => k_is)
    (case i28 => k_is)
    (case l28 => k_is)
    (case c28 => k_is)
    (case k28 => k_is)
    (case a29 => k_is)
    (case l29 => k_is)
    (case c29 => k_is)
    (case k29 => k_is)
    (case a30 => k_is)
    (case l30 => k_is)
    (case c30 => k_is)
    (case k30 => k_is)
    (case a31 => k_is)
    (case i31 => k_is)
    (case l31 => k_is)
    (case c31 => k_is)
    (case k31 => k_is)
    (case a32 => k_is)
    (case i32 => k_is)
    (case l32 => k_is)
    (case c32 => k_is)
    (case k32 => k_is)
    (case a33 => k_is)
    (case l33 => k_is)
    (case c33 => k_is)
    (case k33 => k_is)
    (case a34 => k_is)
    (case i34 => k_is)
    (case l34 => k_is)
    (case c34 => k_is)
    (case k34 => k_is)
    (case a35 => k_is)
    (case i35 => k_is)
    (case l35 => k_is)
    (case c35 => k_is)
    (case k35 => k_is)
    (case a36 => k_is)
    (case i36 => k_is)
    (case l36 => k_is)
    (case c36 => k_is)
    (case k36 => k_is)
    (case a37 => k_is)
    (case i37 => k_is)
    (case l37 => k_is)
    (case c37 => k_is)
    (case k37 => k_is)
    (case a38 => k_is)
    (case l38 => k_is)
    (case c38 => k_is)
    (case k38 => k_is)
    (case a39 => k_is)
    (case l39 => k_is)
    (case c39 => k_is)
    (case k39 => k_is)
    (case a40 => k_is)
    (case l40 => k_is)
    (case c40 => k_is)
    (case k40 => k_is)
    (case a41 => k_is)
    (case l41 => k_is)
    (case c41 => k_is)
    (case k41 => k_is)
    (case a42 => k_is)
    (case l42 => k_is)
    (case c42 => k_is)
    (case k42 => k_is)
    (case a43 => k_is)
    (case l43 => k_is)
    (case c43 => k_is)
    (case k43 => k_is)
